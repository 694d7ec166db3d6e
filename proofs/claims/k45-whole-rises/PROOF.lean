import PyProof.Rows.All
import Wide.All
import OpenK.AllK
import Wide.FinOn
import KE.KStateDown
import HandS.Base
import HandS.Call
import HandS.Ends
import HandS.More
import HandS.Words
import HandS.WordsExc
import HandS.Defaults
import HandS.Head0
import HandS.Head1
import HandS.Head2
import HandS.HeadEnd
import HandS.HeadHook1
import HandS.HeadHook2
import PySem.Challenge.RW_ropedclimbers_k45_whole_rises
import HandS.ForMost
import HandS.Conv
import HandS.Style
import HandS.IsInst
import HandS.DictComp
import HandS.Walk
import HandS.NoneIn
import HandS.SetBool
import HandS.Strs
import KE.KUnpackStar
import KE.GoesEnum
import OpenK.KOps
import HandS.Evl
set_option Elab.async false
set_option linter.all false
set_option maxRecDepth 100000
set_option maxHeartbeats 0
namespace Rb
open PySem PySem.Spec PyProof.Rows L2
def top (i : Nat) : Stmt := PySem.Challenge.pw_ropedclimbers_k45_whole_rises.main.body.getD i (.Pass ⟨0, 0, 0, 0⟩)
abbrev s_is_whole : Stmt := top 16
abbrev s_is_within : Stmt := top 17
abbrev s_are_wholes : Stmt := top 18
abbrev s_is_rope : Stmt := top 19
abbrev s_look_at_ropes : Stmt := top 20
abbrev s_is_chain : Stmt := top 23
abbrev s_look_at_chain : Stmt := top 24
abbrev s_knots_of : Stmt := top 25
abbrev s_sum_of : Stmt := top 26
abbrev s_leads : Stmt := top 27
abbrev s_is_heights : Stmt := top 29
abbrev s_look_at_heights : Stmt := top 30
abbrev s_room_by : Stmt := top 31
abbrev s_broken : Stmt := top 32
abbrev s_is_stand : Stmt := top 33
abbrev s_look_at_stand : Stmt := top 34
abbrev s_spread : Stmt := top 37
abbrev s_solved : Stmt := top 38
abbrev s_stand_or_ring : Stmt := top 39
abbrev s_look_at_rig : Stmt := top 40
abbrev s_look_at_knot : Stmt := top 41
abbrev s_is_slip : Stmt := top 44
abbrev s_look_at_slips : Stmt := top 45
abbrev s_stops_by : Stmt := top 46
abbrev s_ends_by : Stmt := top 47
abbrev s_fallen : Stmt := top 48
abbrev s_pulls_by : Stmt := top 49
abbrev s_fall : Stmt := top 50
abbrev s_are_stops : Stmt := top 51
abbrev s_is_pull : Stmt := top 52
abbrev s_are_pulls : Stmt := top 53
abbrev s_is_fall : Stmt := top 54
abbrev s_turned_over : Stmt := top 55
abbrev s_turned_slips : Stmt := top 56
abbrev s_rise : Stmt := top 57
abbrev s_is_rise : Stmt := top 58
abbrev s__law_pool : Stmt := top 60
abbrev s__law_draw : Stmt := top 61
abbrev s__law_number : Stmt := top 62
abbrev s__law_highs : Stmt := top 63
abbrev s__law_ropes : Stmt := top 64
abbrev s__law_whole : Stmt := top 65
abbrev s__law_lets : Stmt := top 66
abbrev s__law_stand : Stmt := top 67
abbrev s__law_knots : Stmt := top 68
abbrev s__law_sums : Stmt := top 69
abbrev s__law_dist : Stmt := top 70
abbrev s__law_limits : Stmt := top 71
abbrev s__law_fallen : Stmt := top 72
abbrev s__law_slips : Stmt := top 73
abbrev s__law_pull : Stmt := top 74
abbrev s__law_pulls : Stmt := top 75
abbrev s__law_stops : Stmt := top 76
abbrev s__law_fall : Stmt := top 77
abbrev s__law_rise : Stmt := top 78
abbrev s__law_filled : Stmt := top 79
abbrev s_law : Stmt := top 80
abbrev s_Rig___init__ : Stmt := inClass (top 21) 0
abbrev s_Rig_many : Stmt := inClass (top 21) 1
abbrev s_Rig_ropes : Stmt := inClass (top 21) 2
abbrev s_Rig_rope : Stmt := inClass (top 21) 3
abbrev s_Rig_turned : Stmt := inClass (top 21) 6
abbrev s_Rig___len__ : Stmt := inClass (top 21) 9
abbrev s_Table___init__ : Stmt := inClass (top 42) 0
abbrev s_Table_told : Stmt := inClass (top 42) 2
abbrev s_Table_least : Stmt := inClass (top 42) 3
abbrev s_Table_chain : Stmt := inClass (top 42) 4
def d_is_whole : He.DefD := ⟨("is_whole", none), "is_whole", "is_whole", defArgs s_is_whole, defBody s_is_whole, defScope s_is_whole, [], []⟩
def d_is_within : He.DefD := ⟨("is_within", none), "is_within", "is_within", defArgs s_is_within, defBody s_is_within, defScope s_is_within, [], []⟩
def d_are_wholes : He.DefD := ⟨("are_wholes", none), "are_wholes", "are_wholes", defArgs s_are_wholes, defBody s_are_wholes, defScope s_are_wholes, [], []⟩
def d_is_rope : He.DefD := ⟨("is_rope", none), "is_rope", "is_rope", defArgs s_is_rope, defBody s_is_rope, defScope s_is_rope, [], []⟩
def d_look_at_ropes : He.DefD := ⟨("look_at_ropes", none), "look_at_ropes", "look_at_ropes", defArgs s_look_at_ropes, defBody s_look_at_ropes, defScope s_look_at_ropes, [.int 0], []⟩
def d_is_chain : He.DefD := ⟨("is_chain", none), "is_chain", "is_chain", defArgs s_is_chain, defBody s_is_chain, defScope s_is_chain, [], []⟩
def d_look_at_chain : He.DefD := ⟨("look_at_chain", none), "look_at_chain", "look_at_chain", defArgs s_look_at_chain, defBody s_look_at_chain, defScope s_look_at_chain, [], []⟩
def d_knots_of : He.DefD := ⟨("knots_of", none), "knots_of", "knots_of", defArgs s_knots_of, defBody s_knots_of, defScope s_knots_of, [], []⟩
def d_sum_of : He.DefD := ⟨("sum_of", none), "sum_of", "sum_of", defArgs s_sum_of, defBody s_sum_of, defScope s_sum_of, [], []⟩
def d_leads : He.DefD := ⟨("leads", none), "leads", "leads", defArgs s_leads, defBody s_leads, defScope s_leads, [], []⟩
def d_is_heights : He.DefD := ⟨("is_heights", none), "is_heights", "is_heights", defArgs s_is_heights, defBody s_is_heights, defScope s_is_heights, [], []⟩
def d_look_at_heights : He.DefD := ⟨("look_at_heights", none), "look_at_heights", "look_at_heights", defArgs s_look_at_heights, defBody s_look_at_heights, defScope s_look_at_heights, [], []⟩
def d_room_by : He.DefD := ⟨("room_by", none), "room_by", "room_by", defArgs s_room_by, defBody s_room_by, defScope s_room_by, [], []⟩
def d_broken : He.DefD := ⟨("broken", none), "broken", "broken", defArgs s_broken, defBody s_broken, defScope s_broken, [], []⟩
def d_is_stand : He.DefD := ⟨("is_stand", none), "is_stand", "is_stand", defArgs s_is_stand, defBody s_is_stand, defScope s_is_stand, [], []⟩
def d_look_at_stand : He.DefD := ⟨("look_at_stand", none), "look_at_stand", "look_at_stand", defArgs s_look_at_stand, defBody s_look_at_stand, defScope s_look_at_stand, [], []⟩
def d_spread : He.DefD := ⟨("spread", none), "spread", "spread", defArgs s_spread, defBody s_spread, defScope s_spread, [], []⟩
def d_solved : He.DefD := ⟨("solved", none), "solved", "solved", defArgs s_solved, defBody s_solved, defScope s_solved, [], []⟩
def d_stand_or_ring : He.DefD := ⟨("stand_or_ring", none), "stand_or_ring", "stand_or_ring", defArgs s_stand_or_ring, defBody s_stand_or_ring, defScope s_stand_or_ring, [], []⟩
def d_look_at_rig : He.DefD := ⟨("look_at_rig", none), "look_at_rig", "look_at_rig", defArgs s_look_at_rig, defBody s_look_at_rig, defScope s_look_at_rig, [], []⟩
def d_look_at_knot : He.DefD := ⟨("look_at_knot", none), "look_at_knot", "look_at_knot", defArgs s_look_at_knot, defBody s_look_at_knot, defScope s_look_at_knot, [], []⟩
def d_is_slip : He.DefD := ⟨("is_slip", none), "is_slip", "is_slip", defArgs s_is_slip, defBody s_is_slip, defScope s_is_slip, [], []⟩
def d_look_at_slips : He.DefD := ⟨("look_at_slips", none), "look_at_slips", "look_at_slips", defArgs s_look_at_slips, defBody s_look_at_slips, defScope s_look_at_slips, [], []⟩
def d_stops_by : He.DefD := ⟨("stops_by", none), "stops_by", "stops_by", defArgs s_stops_by, defBody s_stops_by, defScope s_stops_by, [], []⟩
def d_ends_by : He.DefD := ⟨("ends_by", none), "ends_by", "ends_by", defArgs s_ends_by, defBody s_ends_by, defScope s_ends_by, [], []⟩
def d_fallen : He.DefD := ⟨("fallen", none), "fallen", "fallen", defArgs s_fallen, defBody s_fallen, defScope s_fallen, [], []⟩
def d_pulls_by : He.DefD := ⟨("pulls_by", none), "pulls_by", "pulls_by", defArgs s_pulls_by, defBody s_pulls_by, defScope s_pulls_by, [], []⟩
def d_fall : He.DefD := ⟨("fall", none), "fall", "fall", defArgs s_fall, defBody s_fall, defScope s_fall, [], []⟩
def d_are_stops : He.DefD := ⟨("are_stops", none), "are_stops", "are_stops", defArgs s_are_stops, defBody s_are_stops, defScope s_are_stops, [], []⟩
def d_is_pull : He.DefD := ⟨("is_pull", none), "is_pull", "is_pull", defArgs s_is_pull, defBody s_is_pull, defScope s_is_pull, [], []⟩
def d_are_pulls : He.DefD := ⟨("are_pulls", none), "are_pulls", "are_pulls", defArgs s_are_pulls, defBody s_are_pulls, defScope s_are_pulls, [], []⟩
def d_is_fall : He.DefD := ⟨("is_fall", none), "is_fall", "is_fall", defArgs s_is_fall, defBody s_is_fall, defScope s_is_fall, [], []⟩
def d_turned_over : He.DefD := ⟨("turned_over", none), "turned_over", "turned_over", defArgs s_turned_over, defBody s_turned_over, defScope s_turned_over, [], []⟩
def d_turned_slips : He.DefD := ⟨("turned_slips", none), "turned_slips", "turned_slips", defArgs s_turned_slips, defBody s_turned_slips, defScope s_turned_slips, [], []⟩
def d_rise : He.DefD := ⟨("rise", none), "rise", "rise", defArgs s_rise, defBody s_rise, defScope s_rise, [], []⟩
def d_is_rise : He.DefD := ⟨("is_rise", none), "is_rise", "is_rise", defArgs s_is_rise, defBody s_is_rise, defScope s_is_rise, [], []⟩
def d__law_pool : He.DefD := ⟨("_law_pool", none), "_law_pool", "_law_pool", defArgs s__law_pool, defBody s__law_pool, defScope s__law_pool, [], []⟩
def d__law_draw : He.DefD := ⟨("_law_draw", none), "_law_draw", "_law_draw", defArgs s__law_draw, defBody s__law_draw, defScope s__law_draw, [], []⟩
def d__law_number : He.DefD := ⟨("_law_number", none), "_law_number", "_law_number", defArgs s__law_number, defBody s__law_number, defScope s__law_number, [], []⟩
def d__law_highs : He.DefD := ⟨("_law_highs", none), "_law_highs", "_law_highs", defArgs s__law_highs, defBody s__law_highs, defScope s__law_highs, [], []⟩
def d__law_ropes : He.DefD := ⟨("_law_ropes", none), "_law_ropes", "_law_ropes", defArgs s__law_ropes, defBody s__law_ropes, defScope s__law_ropes, [], []⟩
def d__law_whole : He.DefD := ⟨("_law_whole", none), "_law_whole", "_law_whole", defArgs s__law_whole, defBody s__law_whole, defScope s__law_whole, [], []⟩
def d__law_lets : He.DefD := ⟨("_law_lets", none), "_law_lets", "_law_lets", defArgs s__law_lets, defBody s__law_lets, defScope s__law_lets, [], []⟩
def d__law_stand : He.DefD := ⟨("_law_stand", none), "_law_stand", "_law_stand", defArgs s__law_stand, defBody s__law_stand, defScope s__law_stand, [], []⟩
def d__law_knots : He.DefD := ⟨("_law_knots", none), "_law_knots", "_law_knots", defArgs s__law_knots, defBody s__law_knots, defScope s__law_knots, [], []⟩
def d__law_sums : He.DefD := ⟨("_law_sums", none), "_law_sums", "_law_sums", defArgs s__law_sums, defBody s__law_sums, defScope s__law_sums, [], []⟩
def d__law_dist : He.DefD := ⟨("_law_dist", none), "_law_dist", "_law_dist", defArgs s__law_dist, defBody s__law_dist, defScope s__law_dist, [], []⟩
def d__law_limits : He.DefD := ⟨("_law_limits", none), "_law_limits", "_law_limits", defArgs s__law_limits, defBody s__law_limits, defScope s__law_limits, [], []⟩
def d__law_fallen : He.DefD := ⟨("_law_fallen", none), "_law_fallen", "_law_fallen", defArgs s__law_fallen, defBody s__law_fallen, defScope s__law_fallen, [], []⟩
def d__law_slips : He.DefD := ⟨("_law_slips", none), "_law_slips", "_law_slips", defArgs s__law_slips, defBody s__law_slips, defScope s__law_slips, [], []⟩
def d__law_pull : He.DefD := ⟨("_law_pull", none), "_law_pull", "_law_pull", defArgs s__law_pull, defBody s__law_pull, defScope s__law_pull, [], []⟩
def d__law_pulls : He.DefD := ⟨("_law_pulls", none), "_law_pulls", "_law_pulls", defArgs s__law_pulls, defBody s__law_pulls, defScope s__law_pulls, [], []⟩
def d__law_stops : He.DefD := ⟨("_law_stops", none), "_law_stops", "_law_stops", defArgs s__law_stops, defBody s__law_stops, defScope s__law_stops, [], []⟩
def d__law_fall : He.DefD := ⟨("_law_fall", none), "_law_fall", "_law_fall", defArgs s__law_fall, defBody s__law_fall, defScope s__law_fall, [], []⟩
def d__law_rise : He.DefD := ⟨("_law_rise", none), "_law_rise", "_law_rise", defArgs s__law_rise, defBody s__law_rise, defScope s__law_rise, [], []⟩
def d__law_filled : He.DefD := ⟨("_law_filled", none), "_law_filled", "_law_filled", defArgs s__law_filled, defBody s__law_filled, defScope s__law_filled, [], []⟩
def d_law : He.DefD := ⟨("law", none), "law", "law", defArgs s_law, defBody s_law, defScope s_law, [], []⟩
def d_Rig___init__ : He.DefD := ⟨("Rig", some "__init__"), "__init__", "Rig.__init__", defArgs s_Rig___init__, defBody s_Rig___init__, defScope s_Rig___init__, [.adr (He.dflAt ("Rig", some "__init__") 0)], []⟩
def d_Rig_many : He.DefD := ⟨("Rig", some "many"), "many", "Rig.many", defArgs s_Rig_many, defBody s_Rig_many, defScope s_Rig_many, [], []⟩
def d_Rig_ropes : He.DefD := ⟨("Rig", some "ropes"), "ropes", "Rig.ropes", defArgs s_Rig_ropes, defBody s_Rig_ropes, defScope s_Rig_ropes, [], []⟩
def d_Rig_rope : He.DefD := ⟨("Rig", some "rope"), "rope", "Rig.rope", defArgs s_Rig_rope, defBody s_Rig_rope, defScope s_Rig_rope, [], []⟩
def d_Rig_turned : He.DefD := ⟨("Rig", some "turned"), "turned", "Rig.turned", defArgs s_Rig_turned, defBody s_Rig_turned, defScope s_Rig_turned, [], []⟩
def d_Rig___len__ : He.DefD := ⟨("Rig", some "__len__"), "__len__", "Rig.__len__", defArgs s_Rig___len__, defBody s_Rig___len__, defScope s_Rig___len__, [], []⟩
def d_Table___init__ : He.DefD := ⟨("Table", some "__init__"), "__init__", "Table.__init__", defArgs s_Table___init__, defBody s_Table___init__, defScope s_Table___init__, [], []⟩
def d_Table_told : He.DefD := ⟨("Table", some "told"), "told", "Table.told", defArgs s_Table_told, defBody s_Table_told, defScope s_Table_told, [], []⟩
def d_Table_least : He.DefD := ⟨("Table", some "least"), "least", "Table.least", defArgs s_Table_least, defBody s_Table_least, defScope s_Table_least, [], []⟩
def d_Table_chain : He.DefD := ⟨("Table", some "chain"), "chain", "Table.chain", defArgs s_Table_chain, defBody s_Table_chain, defScope s_Table_chain, [], []⟩
def fn : List He.DefD := [d_is_whole, d_is_within, d_are_wholes, d_is_rope, d_look_at_ropes, d_is_chain, d_look_at_chain, d_knots_of, d_sum_of, d_leads, d_is_heights, d_look_at_heights, d_room_by, d_broken, d_is_stand, d_look_at_stand, d_spread, d_solved, d_stand_or_ring, d_look_at_rig, d_look_at_knot, d_is_slip, d_look_at_slips, d_stops_by, d_ends_by, d_fallen, d_pulls_by, d_fall, d_are_stops, d_is_pull, d_are_pulls, d_is_fall, d_turned_over, d_turned_slips, d_rise, d_is_rise, d__law_pool, d__law_draw, d__law_number, d__law_highs, d__law_ropes, d__law_whole, d__law_lets, d__law_stand, d__law_knots, d__law_sums, d__law_dist, d__law_limits, d__law_fallen, d__law_slips, d__law_pull, d__law_pulls, d__law_stops, d__law_fall, d__law_rise, d__law_filled, d_law, d_Rig___init__, d_Rig_many, d_Rig_ropes, d_Rig_rope, d_Rig_turned, d_Rig___len__, d_Table___init__, d_Table_told, d_Table_least, d_Table_chain]
def fa : List He.Fa := [.glo "is_whole", .glo "is_within", .glo "are_wholes", .glo "is_rope", .glo "look_at_ropes", .glo "is_chain", .glo "look_at_chain", .glo "knots_of", .glo "sum_of", .glo "leads", .glo "is_heights", .glo "look_at_heights", .glo "room_by", .glo "broken", .glo "is_stand", .glo "look_at_stand", .glo "spread", .glo "solved", .glo "stand_or_ring", .glo "look_at_rig", .glo "look_at_knot", .glo "is_slip", .glo "look_at_slips", .glo "stops_by", .glo "ends_by", .glo "fallen", .glo "pulls_by", .glo "fall", .glo "are_stops", .glo "is_pull", .glo "are_pulls", .glo "is_fall", .glo "turned_over", .glo "turned_slips", .glo "rise", .glo "is_rise", .glo "_law_pool", .glo "_law_draw", .glo "_law_number", .glo "_law_highs", .glo "_law_ropes", .glo "_law_whole", .glo "_law_lets", .glo "_law_stand", .glo "_law_knots", .glo "_law_sums", .glo "_law_dist", .glo "_law_limits", .glo "_law_fallen", .glo "_law_slips", .glo "_law_pull", .glo "_law_pulls", .glo "_law_stops", .glo "_law_fall", .glo "_law_rise", .glo "_law_filled", .glo "law", .glo "Rig", .glo "Table", .free "isinstance", .free "len", .free "all", .free "any", .free "list", .free "tuple", .free "dict", .free "int", .free "bool", .free "range", .free "enumerate", .free "zip", .free "min", .free "max", .free "sum", .free "sorted", .int "MOST_CLIMBERS" 8, .int "MOST_ROPES" 60, .cls "Rig", .mkr "Rig", .noat "Rig" "own_many", .noat "Rig" "own_ropes", .cls "Table", .mkr "Table", .noat "Table" "own_rig", .noat "Table" "best", .meth "Rig" "__init__", .meth "Rig" "many", .meth "Rig" "ropes", .meth "Rig" "rope", .meth "Rig" "turned", .meth "Rig" "__len__", .meth "Table" "__init__", .meth "Table" "told", .meth "Table" "least", .meth "Table" "chain"]
def names0 : List PySem.Str := ["_wall", "__name__", "RopeError", "NoMany", "NoRope", "NoHeights", "NoKnot", "NoChain", "NoSlips", "NoNumber", "NotLet", "NoStand", "TooMany", "MOST_CLIMBERS", "MOST_ROPES", "is_whole", "is_within", "are_wholes", "is_rope", "look_at_ropes", "Rig", "is_chain", "look_at_chain", "knots_of", "sum_of", "leads", "is_heights", "look_at_heights", "room_by", "broken"]
def names1 : List PySem.Str := ["is_stand", "look_at_stand", "ring_in", "spread", "solved", "stand_or_ring", "look_at_rig", "look_at_knot", "Table", "is_slip", "look_at_slips", "stops_by", "ends_by", "fallen", "pulls_by", "fall", "are_stops", "is_pull", "are_pulls", "is_fall", "turned_over", "turned_slips", "rise", "is_rise", "_law_pool", "_law_draw", "_law_number", "_law_highs", "_law_ropes", "_law_whole"]
def names2 : List PySem.Str := ["_law_lets", "_law_stand", "_law_knots", "_law_sums", "_law_dist", "_law_limits", "_law_fallen", "_law_slips", "_law_pull", "_law_pulls", "_law_stops", "_law_fall", "_law_rise", "_law_filled"]
def names : List PySem.Str := names0 ++ names1 ++ names2
abbrev R : PySem.W.OpenRow := PySem.W.OpenLaw.row PySem.Challenge.rw_ropedclimbers_k45_whole_rises
end Rb

set_option Elab.async false
set_option linter.all false
set_option maxRecDepth 100000
set_option maxHeartbeats 0
/-! The head's facts by a Hook of my own: the fragment is the globals, the defs with their code, the two classes with their methods; it is forced once, ahead of the looks. -/
namespace Rb
open PySem PySem.Spec PyProof.Rows L2
def kids (g : Addr → Option Obj) (a : Addr) : List Addr := match g a with
  | some o => (match o.data with
    | .func fd => He.refV fd.code ++ He.refV fd.defaults
    | .cls cd => [cd.ns]
    | .dict es _ => es.toList.flatMap fun e => He.refV e.val
    | _ => [])
  | none => []
def ownNames : List PySem.Str := ("Rig" : PySem.Str) :: ("Table" : PySem.Str) :: fn.filterMap fun d => match d.at_.2 with
  | none => some d.at_.1
  | some _ => none
def as1 (g : Addr → Option Obj) : List Addr := ownNames.map fun x => He.ga (He.frG g [mainGlobals]) x
def asX (g : Addr → Option Obj) : List Addr :=
  let a1 := as1 g
  let a2 := a1.flatMap (kids g)
  let a3 := (a2.take 2).flatMap (kids g)
  mainGlobals :: (a1 ++ (a2 ++ (a3 ++ a3.flatMap (kids g))))
def frA {α : Type} : List Addr → (List Addr → α) → α
  | [], k => k []
  | a :: r, k => HandSHeadRun.frNat a fun a => frA r fun l => k (a :: l)
theorem frA_eq {α : Type} : ∀ (l : List Addr) (k : List Addr → α), frA l k = k l
  | [], k => rfl
  | a :: r, k => by
    show HandSHeadRun.frNat a (fun a => frA r fun l => k (a :: l)) = k (a :: r)
    rw [HandSHeadRun.frNat_eq, frA_eq r]
def frK {α : Type} (g : Addr → Option Obj) : List Addr → (PySem.W.Frag → α) → α
  | [], k => k []
  | a :: r, k => match g a with
    | some o => frK g r fun l => k ((a, o) :: l)
    | none => frK g r k
theorem frK_eq {α : Type} (g : Addr → Option Obj) : ∀ (l : List Addr) (k : PySem.W.Frag → α), frK g l k = k (He.frG g l)
  | [], k => rfl
  | a :: r, k => by
    unfold frK
    cases e : g a with
    | none =>
      show frK g r k = _
      rw [frK_eq g r]
      unfold He.frG
      rw [List.filterMap_cons, e]
      rfl
    | some o =>
      show frK g r (fun l => k ((a, o) :: l)) = _
      rw [frK_eq g r]
      unfold He.frG
      rw [List.filterMap_cons, e]
      rfl
def obX (g : Addr → Option Obj) (fa : List He.Fa) (fn : List He.DefD) : He.AlD := frA (asX g) fun as => frK g as fun K => He.obsD fa fn K
theorem obX_eq (g : Addr → Option Obj) (fa : List He.Fa) (fn : List He.DefD) : obX g fa fn = He.obsD fa fn (He.frG g (asX g)) := by
  unfold obX
  rw [frA_eq, frK_eq]
end Rb

set_option Elab.async false
set_option linter.all false
set_option maxRecDepth 100000
set_option maxHeartbeats 0
namespace Rb
open PySem PySem.Spec PyProof.Rows L2
def ob (s : PySem.W.SharedT) : He.AlD := obX (HandSHeadRun.getT s) fa fn
def hk : PySem.W.Hook where
  α := He.AlD
  obs := fun s => He.obsD fa fn (He.frG s.heap.get? (asX s.heap.get?))
  val := fun _ => He.valD fn
  says := fun _ h => ∃ K : PySem.W.Frag, K.In h ∧ He.SaysD fa fn K
  of := fun _ _ e => ⟨_, He.frG_in, e⟩
  keeps := fun _ _ _ ⟨K, X, c⟩ hk => ⟨K, PySem.W.Frag.In.keeps X hk, c⟩
theorem run (w : World) : HandSHeadRun.RunEq R (PySem.W.view R.prog [80]) hk ob 6000 names w := by
  intro os
  kernel_rfl
end Rb

set_option Elab.async false
set_option linter.all false
set_option maxRecDepth 100000
set_option maxHeartbeats 4000000
/-! The frame: values by descriptions, what a def owns, what an expression's reading evaluates to. -/
namespace Rb
open PySem L2
/-- a value told by what stands -/
structure HP where
  p : Hp → V → Prop
  m : ∀ {H H' : Hp} {v : V}, Same H H' → p H v → p H' v
/-- an object told by what stands -/
structure OP where
  q : Hp → HO → Prop
  m : ∀ {H H' : Hp} {o : HO}, Same H H' → q H o → q H' o
abbrev Ow := Addr × OP
theorem paired_mono {α : Type} {f : α → HP} {H H' : Hp} (s : Same H H') : ∀ {xs : List α} {vs : List V}, Paired (fun x v => (f x).p H v) xs vs → Paired (fun x v => (f x).p H' v) xs vs
  | _, _, .nil => .nil
  | _, _, .cons h t => .cons ((f _).m s h) (paired_mono s t)
theorem pairedD_mono {α : Type} {f : α → HP} {H H' : Hp} (s : Same H H') : ∀ {xs : List (Int × α)} {vs : List (Key × V)},
    Paired (fun x v => v.1 = Sum.inl x.1 ∧ (f x.2).p H v.2) xs vs → Paired (fun x v => v.1 = Sum.inl x.1 ∧ (f x.2).p H' v.2) xs vs
  | _, _, .nil => .nil
  | _, _, .cons h t => .cons ⟨h.1, (f _).m s h.2⟩ (pairedD_mono s t)
def I (i : Int) : HP := ⟨fun _ v => v = .int i, fun _ h => h⟩
def Bo (c : Bool) : HP := ⟨fun _ v => v = .bl c, fun _ h => h⟩
def No : HP := ⟨fun _ v => v = .non, fun _ h => h⟩
def Sr (z : Str) : HP := ⟨fun _ v => v = .str z, fun _ h => h⟩
def At (a : Addr) : HP := ⟨fun _ v => v = .ref a, fun _ h => h⟩
def Op : Option Int → HP
  | none => No
  | some i => I i
def Ob (o : OP) : HP := ⟨fun H v => ∃ a u, v = .ref a ∧ H a = some u ∧ o.q H u, fun s ⟨a, u, e, h, q⟩ => ⟨a, u, e, s a u h, o.m s q⟩⟩
def oL {α : Type} (f : α → HP) (xs : List α) : OP := ⟨fun H u => ∃ vs, u = .lst vs ∧ Paired (fun x v => (f x).p H v) xs vs, fun s ⟨vs, e, h⟩ => ⟨vs, e, paired_mono s h⟩⟩
def oTT {α : Type} (f : α → HP) (xs : List α) : OP := ⟨fun H u => ∃ vs, u = .tup vs ∧ Paired (fun x v => (f x).p H v) xs vs, fun s ⟨vs, e, h⟩ => ⟨vs, e, paired_mono s h⟩⟩
def oT (Ps : List HP) : OP := oTT (fun P : HP => P) Ps
def oD {α : Type} (f : α → HP) (kvs : List (Int × α)) : OP := ⟨fun H u => ∃ vs, u = .dK vs ∧ Paired (fun x v => v.1 = Sum.inl x.1 ∧ (f x.2).p H v.2) kvs vs, fun s ⟨vs, e, h⟩ => ⟨vs, e, pairedD_mono s h⟩⟩
abbrev L {α : Type} (f : α → HP) (xs : List α) : HP := Ob (oL f xs)
abbrev Tu {α : Type} (f : α → HP) (xs : List α) : HP := Ob (oTT f xs)
abbrev Tp (Ps : List HP) : HP := Ob (oT Ps)
abbrev Dc {α : Type} (f : α → HP) (kvs : List (Int × α)) : HP := Ob (oD f kvs)

/-! ### states -/
structure Fr (B H B' H' : Hp) : Prop where
  hh : Same H H'
  bb : Same B B'
  bh : Same B' H'
  fz : ∀ a, H a ≠ none → B' a = B a
theorem Fr.refl {B H : Hp} (h : Same B H) : Fr B H B H := ⟨Same.refl H, Same.refl B, h, fun _ _ => rfl⟩
theorem Fr.trans {B H B1 H1 B2 H2 : Hp} (a : Fr B H B1 H1) (b : Fr B1 H1 B2 H2) : Fr B H B2 H2 :=
  ⟨a.hh.trans b.hh, a.bb.trans b.bb, b.bh, fun c hc => by
    rw [b.fz c fun z => ?_, a.fz c hc]
    cases e : H c with
    | none => exact hc e
    | some o =>
      rw [a.hh c o e] at z
      cases z⟩
theorem Fr.new {B H : Hp} {p : Addr} {o : HO} (s : Same B H) (h : H p = none) : Fr B H (upd B p o) (upd H p o) := by
  have hb : B p = none := s.free h
  refine ⟨fun b u e => ?_, fun b u e => ?_, fun b u e => ?_, fun a ha => ?_⟩
  · rw [upd_ne (ne_of_none e h)]
    exact e
  · rw [upd_ne (ne_of_none e hb)]
    exact e
  · by_cases hp : b = p
    · subst hp
      rw [upd_same] at e ⊢
      exact e
    · rw [upd_ne hp] at e ⊢
      exact s b u e
  · have : a ≠ p := fun z => ha (z ▸ h)
    rw [upd_ne this]
structure Bs where
  B0 : Hp
  H0 : Hp
/-- the base, the slots, what is owned (seen by nothing that is told otherwise) -/
structure Sta (b : Bs) (G : List (Option HP)) (O : List Ow) (σ : L2.St) (B H : Hp) : Prop where
  len : σ.length = G.length
  bb : Same b.B0 B
  bh : Same B H
  hh : Same b.H0 H
  fz : ∀ a, b.H0 a ≠ none → B a = b.B0 a
  sl : ∀ (i : Nat) (P : HP), G[i]? = some (some P) → ∃ v, σ[i]? = some (some v) ∧ P.p B v
  ow : ∀ x ∈ O, b.H0 x.1 = none ∧ B x.1 = none ∧ ∃ u, H x.1 = some u ∧ x.2.q B u
  nd : (O.map (·.1)).Nodup
section
variable {b : Bs} {G G' : List (Option HP)} {O O' R : List Ow} {σ : L2.St} {B H B' H' : Hp}
theorem Sta.fr (S : Sta b G O σ B H) (h : Same b.B0 b.H0) : Fr b.B0 b.H0 B H := ⟨S.hh, S.bb, S.bh, S.fz⟩
theorem Sta.step (S : Sta b G O σ B H) (f : Fr B H B' H') : Sta b G O σ B' H' := by
  refine ⟨S.len, S.bb.trans f.bb, f.bh, S.hh.trans f.hh, fun a ha => ?_, fun i P e => ?_, fun x hx => ?_, S.nd⟩
  · rw [f.fz a, S.fz a ha]
    intro z
    cases e : b.H0 a with
    | none => exact ha e
    | some o =>
      rw [S.hh a o e] at z
      cases z
  · obtain ⟨v, e1, h1⟩ := S.sl i P e
    exact ⟨v, e1, P.m f.bb h1⟩
  · obtain ⟨h1, h2, u, h3, h4⟩ := S.ow x hx
    refine ⟨h1, ?_, u, f.hh _ _ h3, x.2.m f.bb h4⟩
    rw [f.fz x.1 (by rw [h3]; simp), h2]
theorem Sta.set {i : Nat} {P : HP} {v : V} (S : Sta b G O σ B H) (h : P.p B v) : Sta b (G.set i (some P)) O (σ.set i (some v)) B H := by
  refine ⟨by simp [S.len], S.bb, S.bh, S.hh, S.fz, fun j Q e => ?_, S.ow, S.nd⟩
  by_cases hj : i = j
  · subst hj
    have hl : i < G.length := by
      have := (List.getElem?_eq_some_iff.mp e).1
      simpa using this
    rw [List.getElem?_set_self hl] at e
    cases e
    exact ⟨v, by rw [List.getElem?_set_self (by rw [S.len]; exact hl)], h⟩
  · rw [List.getElem?_set_ne hj] at e
    rw [List.getElem?_set_ne hj]
    exact S.sl j Q e
/-- less is known of the slots -/
inductive Wkn : List (Option HP) → List (Option HP) → Prop
  | nil : Wkn [] []
  | no {o : Option HP} {l l' : List (Option HP)} : Wkn l l' → Wkn (none :: l) (o :: l')
  | yes {P Q : HP} {l l' : List (Option HP)} : P = Q → Wkn l l' → Wkn (some P :: l) (some Q :: l')
theorem Wkn.refl : ∀ (l : List (Option HP)), Wkn l l
  | [] => .nil
  | none :: l => .no (Wkn.refl l)
  | some P :: l => .yes rfl (Wkn.refl l)
theorem Wkn.len : ∀ {l l' : List (Option HP)}, Wkn l l' → l.length = l'.length
  | _, _, .nil => rfl
  | _, _, .no t => by simp [t.len]
  | _, _, .yes _ t => by simp [t.len]
theorem Wkn.get : ∀ {l l' : List (Option HP)}, Wkn l l' → ∀ (i : Nat) (P : HP), l[i]? = some (some P) → l'[i]? = some (some P)
  | _, _, .nil, i, P, e => by simp at e
  | _, _, .no t, 0, P, e => by simp at e
  | _, _, .no t, i + 1, P, e => by simpa using t.get i P (by simpa using e)
  | _, _, .yes q t, 0, P, e => by
    subst q
    simpa using e
  | _, _, .yes q t, i + 1, P, e => by simpa using t.get i P (by simpa using e)
theorem Sta.weak (S : Sta b G O σ B H) (w : Wkn G' G) : Sta b G' O σ B H :=
  ⟨S.len.trans w.len.symm, S.bb, S.bh, S.hh, S.fz, fun i P e => S.sl i P (w.get i P e), S.ow, S.nd⟩
/-- what is owned, otherwise listed, or less of it -/
theorem Sta.owned (S : Sta b G O σ B H) (h : ∀ x ∈ O', x ∈ O) (hn : (O'.map (·.1)).Nodup) : Sta b G O' σ B H := ⟨S.len, S.bb, S.bh, S.hh, S.fz, S.sl, fun x hx => S.ow x (h x hx), hn⟩
theorem Sta.perm (S : Sta b G O σ B H) (h : O'.Perm O) : Sta b G O' σ B H := S.owned (fun x hx => h.mem_iff.mp hx) ((h.map _).nodup_iff.mpr S.nd)
theorem Sta.tail {x : Ow} (S : Sta b G (x :: O) σ B H) : Sta b G O σ B H := S.owned (fun y hy => List.mem_cons_of_mem _ hy) (List.nodup_cons.mp S.nd).2
/-- a new object is owned -/
theorem Sta.own {p : Addr} {o : OP} {u : HO} (S : Sta b G O σ B H) (h : H p = none) (q : o.q B u) : Sta b G ((p, o) :: O) σ B (upd H p u) := by
  have hb : B p = none := S.bh.free h
  refine ⟨S.len, S.bb, fun c w e => ?_, fun c w e => ?_, S.fz, S.sl, fun x hx => ?_, ?_⟩
  · rw [upd_ne (ne_of_none e hb)]
    exact S.bh c w e
  · rw [upd_ne (ne_of_none e (S.hh.free h))]
    exact S.hh c w e
  · rcases List.mem_cons.mp hx with rfl | hx
    · exact ⟨S.hh.free h, hb, u, upd_same, q⟩
    · obtain ⟨h1, h2, w, h3, h4⟩ := S.ow x hx
      exact ⟨h1, h2, w, by rw [upd_ne (ne_of_none h3 h)]; exact h3, h4⟩
  · refine List.nodup_cons.mpr ⟨fun hm => ?_, S.nd⟩
    obtain ⟨y, hy, e⟩ := List.mem_map.mp hm
    obtain ⟨_, _, w, h3, _⟩ := S.ow y hy
    rw [e, h] at h3
    cases h3
/-- an owned object is changed -/
theorem Sta.put {p : Addr} {o o' : OP} {u : HO} (S : Sta b G ((p, o) :: O) σ B H) (q : o'.q B u) : Sta b G ((p, o') :: O) σ B (upd H p u) := by
  obtain ⟨h1, h2, w, h3, h4⟩ := S.ow (p, o) (by simp)
  refine ⟨S.len, S.bb, fun c w e => ?_, fun c w e => ?_, S.fz, S.sl, fun x hx => ?_, S.nd⟩
  · rw [upd_ne (ne_of_none e h2)]
    exact S.bh c w e
  · rw [upd_ne (ne_of_none e h1)]
    exact S.hh c w e
  · rcases List.mem_cons.mp hx with rfl | hx
    · exact ⟨h1, h2, u, upd_same, q⟩
    · obtain ⟨g1, g2, z, g3, g4⟩ := S.ow x (List.mem_cons_of_mem _ hx)
      refine ⟨g1, g2, z, ?_, g4⟩
      rw [upd_ne]
      · exact g3
      · intro e
        have := (List.nodup_cons.mp S.nd).1
        exact this (List.mem_map.mpr ⟨x, hx, e⟩)
/-- an owned object is handed over: told by all from now on -/
theorem Sta.free {p : Addr} {o : OP} (S : Sta b G ((p, o) :: O) σ B H) : ∃ B', Sta b G O σ B' H ∧ (Ob o).p B' (.ref p) ∧ Same B B' := by
  obtain ⟨h1, h2, w, h3, h4⟩ := S.ow (p, o) (by simp)
  have s1 : Same B (upd B p w) := fun c x e => by
    rw [upd_ne (ne_of_none e h2)]
    exact e
  have s2 : Same (upd B p w) H := fun c x e => by
    by_cases hc : c = p
    · subst hc
      rw [upd_same] at e
      rw [← e]
      exact h3
    · rw [upd_ne hc] at e
      exact S.bh c x e
  have st : Sta b G O σ (upd B p w) H := by
    refine ⟨S.len, S.bb.trans s1, s2, S.hh, fun a ha => ?_, fun i P e => ?_, fun x hx => ?_, (List.nodup_cons.mp S.nd).2⟩
    · rw [upd_ne (fun z => ha (by rw [z]; exact h1)), S.fz a ha]
    · obtain ⟨v, e1, q⟩ := S.sl i P e
      exact ⟨v, e1, P.m s1 q⟩
    · obtain ⟨g1, g2, z, g3, g4⟩ := S.ow x (List.mem_cons_of_mem _ hx)
      refine ⟨g1, ?_, z, g3, x.2.m s1 g4⟩
      rw [upd_ne]
      · exact g2
      · intro e
        have := (List.nodup_cons.mp S.nd).1
        exact this (List.mem_map.mpr ⟨x, hx, e⟩)
  exact ⟨upd B p w, st, ⟨p, w, rfl, upd_same, o.m s1 h4⟩, s1⟩
end
end Rb

set_option Elab.async false
set_option linter.all false
set_option maxRecDepth 100000
set_option maxHeartbeats 4000000
namespace Rb
open PySem L2
/-! ### what a reading evaluates to -/
def Ev (b : Bs) (te : TE) (G : List (Option HP)) (O : List Ow) (P : HP) (O' : List Ow) : Prop := ∀ σ B H, Sta b G O σ B H → ∀ Q : VK, (∀ v B' H', Same B B' → Sta b G O' σ B' H' → P.p B' v → Q v H') → te σ H Q
/-- .. what is told and owned behind may hang on what is new -/
def EvX {β : Type} (b : Bs) (te : TE) (G : List (Option HP)) (O : List Ow) (P : β → HP) (O' : β → List Ow) : Prop := ∀ σ B H, Sta b G O σ B H → ∀ Q : VK, (∀ y v B' H', Same B B' → Sta b G (O' y) σ B' H' → (P y).p B' v → Q v H') → te σ H Q
def EvT (b : Bs) (tt : TT) (G : List (Option HP)) (O : List Ow) (c : Bool) (O' : List Ow) : Prop := ∀ σ B H, Sta b G O σ B H → ∀ Q : Bool → Hp → Prop, (∀ B' H', Same B B' → Sta b G O' σ B' H' → Q c H') → tt σ H Q
abbrev PPs (B : Hp) (Ps : List HP) (vs : List V) : Prop := Paired (fun (P : HP) v => P.p B v) Ps vs
def EvA (b : Bs) (ta : TA) (G : List (Option HP)) (O : List Ow) (Ps : List HP) (O' : List Ow) : Prop := ∀ σ B H, Sta b G O σ B H → ∀ Q : List V → Hp → Prop, (∀ vs B' H', Same B B' → Sta b G O' σ B' H' → PPs B' Ps vs → Q vs H') → ta σ H Q
def EvAX {β : Type} (b : Bs) (ta : TA) (G : List (Option HP)) (O : List Ow) (Ps : β → List HP) (O' : β → List Ow) : Prop := ∀ σ B H, Sta b G O σ B H → ∀ Q : List V → Hp → Prop, (∀ y vs B' H', Same B B' → Sta b G (O' y) σ B' H' → PPs B' (Ps y) vs → Q vs H') → ta σ H Q
/-- what an operation on values gives, what stands told by S -/
def RV (S : Hp → Hp → Prop) (r : R2) (P P2 R : HP) : Prop := ∀ x y B H, Same B H → S B H → P.p B x → P2.p B y → ∀ Q : VK, (∀ z B' H', Fr B H B' H' → R.p B' z → Q z H') → r x y H Q
def RC (S : Hp → Hp → Prop) (r : List V → Hp → VK → Prop) (Ps : List HP) (R : HP) : Prop := ∀ vs B H, Same B H → S B H → PPs B Ps vs → ∀ Q : VK, (∀ z B' H', Fr B H B' H' → R.p B' z → Q z H') → r vs H Q
/-- what is owned stands -/
def Hold (O : List Ow) (B H : Hp) : Prop := ∀ x ∈ O, B x.1 = none ∧ ∃ u, H x.1 = some u ∧ x.2.q B u
theorem Sta.hold {b : Bs} {G : List (Option HP)} {O : List Ow} {σ : L2.St} {B H : Hp} (S : Sta b G O σ B H) : Hold O B H := fun x hx => (S.ow x hx).2
section
variable {b : Bs} {G G' : List (Option HP)} {O O1 O2 O3 O' : List Ow} {P P1 P2 R : HP} {ta tb tc te : TE} {tt tu : TT} {r : R2}
theorem Ev.of (h : ∀ σ B H, Sta b G O σ B H → ∀ Q : VK, (∀ v B' H', Fr B H B' H' → P.p B' v → Q v H') → te σ H Q) : Ev b te G O P O := fun σ B H S Q k => h σ B H S Q fun v B' H' f hp => k v B' H' f.bb (S.step f) hp
theorem Ev.cast (h : Ev b te G O P O') (e : P = P1) : Ev b te G O P1 O' := e ▸ h
theorem Ev.imp (h : Ev b te G O P O') (e : ∀ B v, P.p B v → P1.p B v) : Ev b te G O P1 O' := fun σ B H S Q k => h σ B H S Q fun v B' H' s S' q => k v B' H' s S' (e B' v q)
theorem Ev.perm (h : Ev b te G O P O') (e : O'.Perm O1) : Ev b te G O P O1 := fun σ B H S Q k => h σ B H S Q fun v B' H' s S' q => k v B' H' s (S'.perm e.symm) q
theorem EvT.cast {c d : Bool} (h : EvT b tt G O c O') (e : c = d) : EvT b tt G O d O' := e ▸ h
theorem ev_var {i : Nat} (h : G[i]? = some (some P)) : Ev b (tVar i) G O P O := Ev.of fun σ B H S Q k => by
  obtain ⟨v, e, hp⟩ := S.sl i P h
  exact ⟨v, e, k v B H (Fr.refl S.bh) hp⟩
theorem ev_int {i : Int} : Ev b (tC (.int i)) G O (I i) O := Ev.of fun σ B H S Q k => k _ B H (Fr.refl S.bh) rfl
theorem ev_bl {c : Bool} : Ev b (tC (.bl c)) G O (Bo c) O := Ev.of fun σ B H S Q k => k _ B H (Fr.refl S.bh) rfl
theorem ev_non : Ev b (tC .non) G O No O := Ev.of fun σ B H S Q k => k _ B H (Fr.refl S.bh) rfl
theorem ev_str {z : Str} : Ev b (tC (.str z)) G O (Sr z) O := Ev.of fun σ B H S Q k => k _ B H (Fr.refl S.bh) rfl
def Ty (n : String) : HP := ⟨fun _ v => v = .ty n, fun _ h => h⟩
theorem ev_ty {n : String} : Ev b (tC (.ty n)) G O (Ty n) O := Ev.of fun σ B H S Q k => k _ B H (Fr.refl S.bh) rfl
theorem ev_op (ha : Ev b ta G O P O1) (hb : Ev b tb G O1 P1 O2) (hr : RV (Hold O2) r P P1 R) : Ev b (tOp r ta tb) G O R O2 := fun σ B H S Q k =>
  ha σ B H S _ fun v B1 H1 s1 S1 hv => hb σ B1 H1 S1 _ fun w B2 H2 s2 S2 hw => hr v w B2 H2 S2.bh S2.hold (P.m s2 hv) hw Q fun z B3 H3 f hz => k z B3 H3 ((s1.trans s2).trans f.bb) (S2.step f) hz
theorem rv_add {S : Hp → Hp → Prop} {i j : Int} : RV S (rI0 fun i j => .int (i + j)) (I i) (I j) (I (i + j)) := fun x y B H s _ hx hy Q k => ⟨i, j, hx, hy, k _ B H (Fr.refl s) rfl⟩
theorem rv_sub {S : Hp → Hp → Prop} {i j : Int} : RV S (rI0 fun i j => .int (i - j)) (I i) (I j) (I (i - j)) := fun x y B H s _ hx hy Q k => ⟨i, j, hx, hy, k _ B H (Fr.refl s) rfl⟩
theorem rv_lt {S : Hp → Hp → Prop} {i j : Int} : RV S (rI0 fun i j => .bl (decide (i < j))) (I i) (I j) (Bo (decide (i < j))) := fun x y B H s _ hx hy Q k => ⟨i, j, hx, hy, k _ B H (Fr.refl s) rfl⟩
theorem rv_le {S : Hp → Hp → Prop} {i j : Int} : RV S (rI0 fun i j => .bl (decide (i ≤ j))) (I i) (I j) (Bo (decide (i ≤ j))) := fun x y B H s _ hx hy Q k => ⟨i, j, hx, hy, k _ B H (Fr.refl s) rfl⟩
theorem rv_gt {S : Hp → Hp → Prop} {i j : Int} : RV S (rI0 fun i j => .bl (decide (j < i))) (I i) (I j) (Bo (decide (j < i))) := fun x y B H s _ hx hy Q k => ⟨i, j, hx, hy, k _ B H (Fr.refl s) rfl⟩
theorem rv_ge {S : Hp → Hp → Prop} {i j : Int} : RV S (rI0 fun i j => .bl (decide (j ≤ i))) (I i) (I j) (Bo (decide (j ≤ i))) := fun x y B H s _ hx hy Q k => ⟨i, j, hx, hy, k _ B H (Fr.refl s) rfl⟩
theorem rv_eq {S : Hp → Hp → Prop} {i j : Int} : RV S rEq (I i) (I j) (Bo (decide (i = j))) := fun x y B H s _ hx hy Q k => by
  cases hx
  cases hy
  exact ⟨rfl, k _ B H (Fr.refl s) (by simp [Bo])⟩
theorem rv_ne {S : Hp → Hp → Prop} {i j : Int} : RV S rNe (I i) (I j) (Bo (!decide (i = j))) := fun x y B H s _ hx hy Q k => by
  cases hx
  cases hy
  exact ⟨rfl, k _ B H (Fr.refl s) (by simp [Bo])⟩
theorem rv_eqS {S : Hp → Hp → Prop} {i j : Str} : RV S rEq (Sr i) (Sr j) (Bo (decide (i = j))) := fun x y B H s _ hx hy Q k => by
  cases hx
  cases hy
  exact ⟨rfl, k _ B H (Fr.refl s) (by simp [Bo])⟩
theorem rv_mul {S : Hp → Hp → Prop} {i j : Int} (h : CMul i j) : RV S (rI CMul fun i j => .int (i * j)) (I i) (I j) (I (i * j)) := fun x y B H s _ hx hy Q k => ⟨i, j, hx, hy, h, k _ B H (Fr.refl s) rfl⟩
theorem rv_mod {S : Hp → Hp → Prop} {i j : Int} (h : 0 < j) : RV S (rI (fun _ j => 0 < j) fun i j => .int (i % j)) (I i) (I j) (I (i % j)) := fun x y B H s _ hx hy Q k => ⟨i, j, hx, hy, h, k _ B H (Fr.refl s) rfl⟩
theorem rv_fdiv {S : Hp → Hp → Prop} {i j : Int} (h : CDiv i j) : RV S (rI CDiv fun i j => .int (i / j)) (I i) (I j) (I (i / j)) := fun x y B H s _ hx hy Q k => ⟨i, j, hx, hy, h, k _ B H (Fr.refl s) rfl⟩
theorem rv_pow {S : Hp → Hp → Prop} {i j : Int} (h : CPow i j) : RV S (rI CPow fun i j => .int (i ^ j.toNat)) (I i) (I j) (I (i ^ j.toNat)) := fun x y B H s _ hx hy Q k => ⟨i, j, hx, hy, h, k _ B H (Fr.refl s) rfl⟩
def rIsN : R2 := fun x y H Q => y = .non ∧ Q (.bl (decide (x = .non))) H
def rNotN : R2 := fun x y H Q => y = .non ∧ Q (.bl (!decide (x = .non))) H
theorem op_non {o : Option Int} {B : Hp} {v : V} (h : (Op o).p B v) : decide (v = .non) = o.isNone := by
  cases o with
  | none =>
    cases (show v = .non from h)
    rfl
  | some i =>
    cases (show v = .int i from h)
    rfl
theorem rv_isN {S : Hp → Hp → Prop} {o : Option Int} : RV S rIsN (Op o) No (Bo o.isNone) := fun x y B H s _ hx hy Q k => ⟨hy, k _ B H (Fr.refl s) (by rw [op_non hx]; rfl)⟩
theorem rv_notN {S : Hp → Hp → Prop} {o : Option Int} : RV S rNotN (Op o) No (Bo (!o.isNone)) := fun x y B H s _ hx hy Q k => ⟨hy, k _ B H (Fr.refl s) (by rw [op_non hx]; rfl)⟩
theorem paired_get {α β : Type} {F : α → β → Prop} : ∀ {xs : List α} {vs : List β}, Paired F xs vs → ∀ {i : Nat} {x : α}, xs[i]? = some x → ∃ v, vs[i]? = some v ∧ F x v
  | _, _, .nil, i, x, e => by simp at e
  | _, _, .cons h t, 0, x, e => ⟨_, rfl, by simp at e; subst e; exact h⟩
  | _, _, .cons h t, i + 1, x, e => by simpa using paired_get t (i := i) (x := x) (by simpa using e)
theorem paired_at {α : Type} {f : α → HP} {B : Hp} {xs : List α} {vs : List V} (h : Paired (fun x v => (f x).p B v) xs vs) {i : Int} {x : α} (e : atI xs i = some x) : ∃ v, atI vs i = some v ∧ (f x).p B v := by
  unfold atI at e ⊢
  rw [← h.length]
  cases hj : ixN xs.length i with
  | none =>
    rw [hj] at e
    cases e
  | some j =>
    rw [hj] at e
    exact paired_get h e
variable {K : PySem.W.Frag}
theorem rv_ixL {S : Hp → Hp → Prop} {α : Type} {f : α → HP} {xs : List α} {i : Int} {x : α} (e : atI xs i = some x) : RV S (rIxL K) (L f xs) (I i) (f x) := fun v y B H s _ hv hy Q k => by
  obtain ⟨a, u, rfl, ha, vs, rfl, hp⟩ := hv
  obtain ⟨w, hw, hx⟩ := paired_at hp e
  exact ⟨a, vs, i, w, rfl, hy, SqL.of (s a _ ha), hw, k w B H (Fr.refl s) hx⟩
theorem rv_ixT {S : Hp → Hp → Prop} {α : Type} {f : α → HP} {xs : List α} {i : Int} {x : α} (e : atI xs i = some x) : RV S (rIxT K) (Tu f xs) (I i) (f x) := fun v y B H s _ hv hy Q k => by
  obtain ⟨a, u, rfl, ha, vs, rfl, hp⟩ := hv
  obtain ⟨w, hw, hx⟩ := paired_at hp e
  exact ⟨a, vs, i, w, rfl, hy, SqT.of (s a _ ha), hw, k w B H (Fr.refl s) hx⟩
/-- an owned list's item -/
theorem rv_ixO {α : Type} {f : α → HP} {xs : List α} {a : Addr} {i : Int} {x : α} (ho : (a, oL f xs) ∈ O) (e : atI xs i = some x) : RV (Hold O) (rIxL K) (At a) (I i) (f x) := fun v y B H s S hv hy Q k => by
  obtain ⟨_, u, ha, vs, rfl, hp⟩ := S _ ho
  obtain ⟨w, hw, hx⟩ := paired_at hp e
  exact ⟨a, vs, i, w, hv, hy, SqL.of ha, hw, k w B H (Fr.refl s) hx⟩
/-! ### tests -/
theorem et_test {c : Bool} (h : Ev b te G O (Bo c) O') : EvT b (tTest te) G O c O' := fun σ B H S Q k => h σ B H S _ fun v B' H' s S' hv => ⟨c, hv, k B' H' s S'⟩
theorem et_B {c : Bool} (h : Ev b te G O (Bo c) O') : EvT b (tB te) G O c O' := fun σ B H S Q k => h σ B H S _ fun v B' H' s S' hv => ⟨c, hv, k B' H' s S'⟩
theorem et_not {c : Bool} (h : EvT b tt G O c O') : EvT b (tNot tt) G O (!c) O' := fun σ B H S Q k => h σ B H S _ fun B' H' s S' => k B' H' s S'
theorem et_andM {c d : Bool} (h1 : EvT b tt G O c O1) (h2 : c = true → EvT b tu G O1 d O2) : EvT b (tAnd tt tu) G O (c && d) (if c = true then O2 else O1) := fun σ B H S Q k => h1 σ B H S _ fun B1 H1 s1 S1 => by
  cases c with
  | true =>
    show tu σ H1 Q
    exact h2 rfl σ B1 H1 S1 Q fun B2 H2 s2 S2 => k B2 H2 (s1.trans s2) S2
  | false =>
    show Q false H1
    exact k B1 H1 s1 S1
theorem et_and {c d : Bool} (h1 : EvT b tt G O c O1) (h2 : c = true → EvT b tu G O1 d O1) : EvT b (tAnd tt tu) G O (c && d) O1 := by
  have := et_andM h1 h2
  rwa [ite_self] at this
theorem et_or {c d : Bool} (h1 : EvT b tt G O c O1) (h2 : c = false → EvT b tu G O1 d O1) : EvT b (tOr tt tu) G O (c || d) O1 := fun σ B H S Q k => h1 σ B H S _ fun B1 H1 s1 S1 => by
  cases c with
  | true =>
    show Q true H1
    exact k B1 H1 s1 S1
  | false =>
    show tu σ H1 Q
    exact h2 rfl σ B1 H1 S1 Q fun B2 H2 s2 S2 => k B2 H2 (s1.trans s2) S2
theorem ev_andV {c d : Bool} (h1 : Ev b ta G O (Bo c) O1) (h2 : c = true → Ev b tb G O1 (Bo d) O1) : Ev b (tAndV ta tb) G O (Bo (c && d)) O1 := fun σ B H S Q k => h1 σ B H S _ fun v B1 H1 s1 S1 hv => ⟨c, hv, by
  cases c with
  | true =>
    show tb σ H1 Q
    exact h2 rfl σ B1 H1 S1 Q fun w B2 H2 s2 S2 hw => k w B2 H2 (s1.trans s2) S2 hw
  | false =>
    show Q (.bl false) H1
    exact k _ B1 H1 s1 S1 rfl⟩
theorem ev_notV {c : Bool} (h1 : Ev b ta G O (Bo c) O1) : Ev b (tNotV ta) G O (Bo (!c)) O1 := fun σ B H S Q k => h1 σ B H S _ fun v B1 H1 s1 S1 hv => ⟨c, hv, k _ B1 H1 s1 S1 rfl⟩
theorem ev_if {c : Bool} (h : EvT b tt G O c O1) (h1 : c = true → Ev b ta G O1 R O1) (h2 : c = false → Ev b tb G O1 R O1) : Ev b (tIf tt ta tb) G O R O1 := fun σ B H S Q k => h σ B H S _ fun B1 H1 s1 S1 => by
  cases c with
  | true =>
    show ta σ H1 Q
    exact h1 rfl σ B1 H1 S1 Q fun w B2 H2 s2 S2 hw => k w B2 H2 (s1.trans s2) S2 hw
  | false =>
    show tb σ H1 Q
    exact h2 rfl σ B1 H1 S1 Q fun w B2 H2 s2 S2 hw => k w B2 H2 (s1.trans s2) S2 hw
/-- a < b < c -/
theorem ev_chain {r' : R2} {c d : Bool} {P3 : HP} (ha : Ev b ta G O P O1) (hb : Ev b tb G O1 P1 O1) (hr : RV (Hold O1) r P P1 (Bo c)) (hc : c = true → Ev b tc G O1 P3 O1) (hr' : c = true → RV (Hold O1) r' P1 P3 (Bo d)) : Ev b (tChain r r' ta tb tc) G O (Bo (c && d)) O1 := fun σ B H S Q k =>
  ha σ B H S _ fun v B1 H1 s1 S1 hv => hb σ B1 H1 S1 _ fun w B2 H2 s2 S2 hw => hr v w B2 H2 S2.bh S2.hold (P.m s2 hv) hw _ fun z B3 H3 f hz => ⟨c, hz, by
    have S3 := S2.step f
    have s3 : Same B B3 := (s1.trans s2).trans f.bb
    cases c with
    | true =>
      show tc σ H3 _
      exact hc rfl σ B3 H3 S3 _ fun x B4 H4 s4 S4 hx => hr' rfl w x B4 H4 S4.bh S4.hold (P1.m (f.bb.trans s4) hw) hx Q fun z B5 H5 f5 hz => k z B5 H5 ((s3.trans s4).trans f5.bb) (S4.step f5) hz
    | false =>
      show Q (.bl false) H3
      exact k _ B3 H3 s3 S3 rfl⟩
/-! ### arguments, displays -/
theorem ea_nil : EvA b tNil G O [] O := fun σ B H S Q k => k [] B H (Same.refl B) S .nil
theorem pps_mono {B B' : Hp} (s : Same B B') : ∀ {Ps : List HP} {vs : List V}, PPs B Ps vs → PPs B' Ps vs
  | _, _, .nil => .nil
  | _, _, .cons h t => .cons (HP.m _ s h) (pps_mono s t)
theorem ea_cons {tr : TA} {Ps : List HP} (h : Ev b te G O P O1) (hr : EvA b tr G O1 Ps O2) : EvA b (tCons te tr) G O (P :: Ps) O2 := fun σ B H S Q k =>
  h σ B H S _ fun v B1 H1 s1 S1 hv => hr σ B1 H1 S1 _ fun vs B2 H2 s2 S2 hvs => k _ B2 H2 (s1.trans s2) S2 (.cons (P.m s2 hv) hvs)
/-- the last argument's description hangs on what is new -/
theorem eax_last {β : Type} {P : β → HP} {O' : β → List Ow} (h : EvX b te G O P O') : EvAX b (tCons te tNil) G O (fun y => [P y]) O' := fun σ B H S Q k =>
  h σ B H S _ fun y v B1 H1 s1 S1 hv => k y _ B1 H1 s1 S1 (.cons hv .nil)
theorem eax_cons {β : Type} {tr : TA} {Ps : β → List HP} {O' : β → List Ow} (h : Ev b te G O P O1) (hr : EvAX b tr G O1 Ps O') : EvAX b (tCons te tr) G O (fun y => P :: Ps y) O' := fun σ B H S Q k =>
  h σ B H S _ fun v B1 H1 s1 S1 hv => hr σ B1 H1 S1 _ fun y vs B2 H2 s2 S2 hvs => k y _ B2 H2 (s1.trans s2) S2 (.cons (P.m s2 hv) hvs)
theorem eax_of {Ps : List HP} {ta : TA} (h : EvA b ta G O Ps O') : EvAX b ta G O (fun _ : Unit => Ps) (fun _ => O') := fun σ B H S Q k => h σ B H S Q fun vs B' H' s S' q => k () vs B' H' s S' q
theorem pps_map {α : Type} {f : α → HP} {B : Hp} : ∀ {xs : List α} {vs : List V}, PPs B (xs.map f) vs → Paired (fun x v => (f x).p B v) xs vs
  | [], _, .nil => .nil
  | x :: xs, _, .cons h t => .cons h (pps_map t)
theorem pps_map' {α : Type} {f : α → HP} {B : Hp} : ∀ {xs : List α} {vs : List V}, Paired (fun x v => (f x).p B v) xs vs → PPs B (xs.map f) vs
  | [], _, .nil => .nil
  | x :: xs, _, .cons h t => .cons h (pps_map' t)
theorem sz_le {n : Nat} (h : n ≤ 100000) : n ≤ sizeLine := Nat.le_trans h (by decide)
theorem sz_lt' {n : Nat} (h : n < 100000) : n < sizeLine := Nat.lt_of_lt_of_le h (by decide)
/-- a new list, seen by all -/
theorem ev_lst {α : Type} (f : α → HP) (xs : List α) {ta : TA} {Ps : List HP} (h : EvA b ta G O Ps O') (e : Ps = xs.map f := by rfl) (hl : xs.length ≤ 100000 := by first | decide | simp) : Ev b (tLst ta) G O (L f xs) O' := fun σ B H S Q k =>
  h σ B H S _ fun vs B1 H1 s1 S1 hv => by
    subst e
    have hv := pps_map hv
    refine ⟨by rw [← hv.length]; exact sz_le hl, fun p hp => ?_⟩
    have f1 := Fr.new (o := .lst vs) S1.bh hp
    exact k _ _ _ (s1.trans f1.bb) (S1.step f1) ⟨p, _, rfl, upd_same, vs, rfl, paired_mono f1.bb hv⟩
/-- a new list, owned -/
theorem evx_lst {α : Type} (f : α → HP) (xs : List α) {ta : TA} {Ps : List HP} (h : EvA b ta G O Ps O') (e : Ps = xs.map f := by rfl) (hl : xs.length ≤ 100000 := by first | decide | simp) : EvX b (tLst ta) G O At (fun a => (a, oL f xs) :: O') := fun σ B H S Q k =>
  h σ B H S _ fun vs B1 H1 s1 S1 hv => by
    subst e
    have hv := pps_map hv
    refine ⟨by rw [← hv.length]; exact sz_le hl, fun p hp => ?_⟩
    exact k p _ _ _ s1 (S1.own hp ⟨vs, rfl, hv⟩) rfl
theorem ev_tup {ta : TA} {Ps : List HP} (h : EvA b ta G O Ps O') (hl : Ps.length ≤ 100000 := by first | decide | simp) : Ev b (tTup ta) G O (Tp Ps) O' := fun σ B H S Q k =>
  h σ B H S _ fun vs B1 H1 s1 S1 hv => by
    refine ⟨by rw [← hv.length]; exact sz_le hl, fun p hp => ?_⟩
    have f1 := Fr.new (o := .tup vs) S1.bh hp
    exact k _ _ _ (s1.trans f1.bb) (S1.step f1) ⟨p, _, rfl, upd_same, vs, rfl, pps_mono f1.bb hv⟩
theorem evx_tup {β : Type} {ta : TA} {Ps : β → List HP} {O' : β → List Ow} (h : EvAX b ta G O Ps O') (hl : ∀ y, (Ps y).length ≤ 100000) : EvX b (tTup ta) G O (fun y => Tp (Ps y)) O' := fun σ B H S Q k =>
  h σ B H S _ fun y vs B1 H1 s1 S1 hv => by
    refine ⟨by rw [← hv.length]; exact sz_le (hl y), fun p hp => ?_⟩
    have f1 := Fr.new (o := .tup vs) S1.bh hp
    exact k y _ _ _ (s1.trans f1.bb) (S1.step f1) ⟨p, _, rfl, upd_same, vs, rfl, pps_mono f1.bb hv⟩
/-- a new empty dict, owned -/
theorem evx_dnew {α : Type} (f : α → HP) : EvX b tDNewK G O At (fun a => (a, oD f []) :: O) := fun σ B H S Q k p hp => k p _ _ _ (Same.refl B) (S.own hp ⟨[], rfl, .nil⟩) rfl
/-- what a built-in call gives -/
theorem ev_cb {ta : TA} {Ps : List HP} {r : List V → Hp → VK → Prop} (h : EvA b ta G O Ps O1) (hr : RC (Hold O1) r Ps R) : Ev b (tCB r ta) G O R O1 := fun σ B H S Q k =>
  h σ B H S _ fun vs B1 H1 s1 S1 hv => hr vs B1 H1 S1.bh S1.hold hv Q fun z B2 H2 f hz => k z B2 H2 (s1.trans f.bb) (S1.step f) hz
theorem evx_of (h : Ev b te G O P O') : EvX b te G O (fun _ : Unit => P) (fun _ => O') := fun σ B H S Q k => h σ B H S Q fun v B' H' s S' q => k () v B' H' s S' q
end
end Rb

set_option Elab.async false
set_option linter.all false
set_option maxRecDepth 100000
set_option maxHeartbeats 4000000
namespace Rb
open PySem L2
/-! ### built-ins on values -/
section
variable {b : Bs} {G G' : List (Option HP)} {O O1 O2 O3 O' : List Ow} {P P1 P2 R : HP} {ta tb tc te td ty : TE} {tt tu : TT} {r : R2} {K : PySem.W.Frag} {S : Hp → Hp → Prop} {α : Type} {f : α → HP} {xs ys : List α}
abbrev rLenQ (K : PySem.W.Frag) : List V → Hp → VK → Prop := fun xs H Q => ∃ p ys, xs = [.ref p] ∧ (SqL K H p ys ∨ SqT K H p ys) ∧ Q (.int ys.length) H
theorem pps1 {B : Hp} {vs : List V} (h : PPs B [P] vs) : ∃ v, vs = [v] ∧ P.p B v := by
  cases h with
  | cons h t =>
    cases t
    exact ⟨_, rfl, h⟩
theorem pps2 {B : Hp} {vs : List V} (h : PPs B [P, P1] vs) : ∃ v w, vs = [v, w] ∧ P.p B v ∧ P1.p B w := by
  cases h with
  | cons h t =>
    obtain ⟨w, rfl, h1⟩ := pps1 t
    exact ⟨_, w, rfl, h, h1⟩
theorem pps3 {B : Hp} {vs : List V} (h : PPs B [P, P1, P2] vs) : ∃ v w z, vs = [v, w, z] ∧ P.p B v ∧ P1.p B w ∧ P2.p B z := by
  cases h with
  | cons h t =>
    obtain ⟨w, z, rfl, h1, h2⟩ := pps2 t
    exact ⟨_, w, z, rfl, h, h1, h2⟩
theorem rc_lenL : RC S (rLenQ K) [L f xs] (I xs.length) := fun vs B H s _ h Q k => by
  obtain ⟨v, rfl, a, u, rfl, ha, ws, rfl, hp⟩ := pps1 h
  exact ⟨a, ws, rfl, .inl (SqL.of (s a _ ha)), k _ B H (Fr.refl s) (by rw [← hp.length]; rfl)⟩
theorem rc_lenT : RC S (rLenQ K) [Tu f xs] (I xs.length) := fun vs B H s _ h Q k => by
  obtain ⟨v, rfl, a, u, rfl, ha, ws, rfl, hp⟩ := pps1 h
  exact ⟨a, ws, rfl, .inr (SqT.of (s a _ ha)), k _ B H (Fr.refl s) (by rw [← hp.length]; rfl)⟩
theorem rc_lenO {a : Addr} (ho : (a, oL f xs) ∈ O) : RC (Hold O) (rLenQ K) [At a] (I xs.length) := fun vs B H s hs h Q k => by
  obtain ⟨v, rfl, hv⟩ := pps1 h
  obtain ⟨_, u, ha, ws, rfl, hp⟩ := hs _ ho
  cases (show v = .ref a from hv)
  exact ⟨a, ws, rfl, .inl (SqL.of ha), k _ B H (Fr.refl s) (by rw [← hp.length]; rfl)⟩
abbrev rListQ (K : PySem.W.Frag) : List V → Hp → VK → Prop := fun xs H Q => ∃ p ys, xs = [.ref p] ∧ (SqL K H p ys ∨ SqT K H p ys) ∧ ∀ l, H l = none → Q (.ref l) (upd H l (.lst ys))
theorem rc_listL : RC S (rListQ K) [L f xs] (L f xs) := fun vs B H s _ h Q k => by
  obtain ⟨v, rfl, a, u, rfl, ha, ws, rfl, hp⟩ := pps1 h
  refine ⟨a, ws, rfl, .inl (SqL.of (s a _ ha)), fun l hl => ?_⟩
  have f1 := Fr.new (o := .lst ws) s hl
  exact k _ _ _ f1 ⟨l, _, rfl, upd_same, ws, rfl, paired_mono f1.bb hp⟩
theorem rc_listT : RC S (rListQ K) [Tu f xs] (L f xs) := fun vs B H s _ h Q k => by
  obtain ⟨v, rfl, a, u, rfl, ha, ws, rfl, hp⟩ := pps1 h
  refine ⟨a, ws, rfl, .inr (SqT.of (s a _ ha)), fun l hl => ?_⟩
  have f1 := Fr.new (o := .lst ws) s hl
  exact k _ _ _ f1 ⟨l, _, rfl, upd_same, ws, rfl, paired_mono f1.bb hp⟩
/-- list(xs), the new one owned -/
theorem evx_list {ta : TA} (h : EvA b ta G O [L f xs] O1) : EvX b (tCB (rListQ K) ta) G O At (fun l => (l, oL f xs) :: O1) := fun σ B H S Q k =>
  h σ B H S _ fun vs B1 H1 s1 S1 hv => by
    obtain ⟨v, rfl, a, u, rfl, ha, ws, rfl, hp⟩ := pps1 hv
    exact ⟨a, ws, rfl, .inl (SqL.of (S1.bh a _ ha)), fun l hl => k l _ _ _ s1 (S1.own hl ⟨ws, rfl, hp⟩) rfl⟩
theorem ev_tupOf (h : Ev b ta G O (L f xs) O1) : Ev b (tThen ta (kTup K)) G O (Tu f xs) O1 := fun σ B H S Q k =>
  h σ B H S _ fun v B1 H1 s1 S1 hv => by
    obtain ⟨a, u, rfl, ha, ws, rfl, hp⟩ := hv
    refine .inl ⟨a, ws, rfl, SqL.of (S1.bh a _ ha), fun l hl => ?_⟩
    have f1 := Fr.new (o := .tup ws) S1.bh hl
    exact k _ _ _ (s1.trans f1.bb) (S1.step f1) ⟨l, _, rfl, upd_same, ws, rfl, paired_mono f1.bb hp⟩
theorem pI {B : Hp} : ∀ {ns : List Int} {vs : List V}, Paired (fun x v => (I x).p B v) ns vs → vs = ns.map V.int
  | _, _, .nil => rfl
  | _, _, .cons h t => by
    cases (show _ = V.int _ from h)
    rw [List.map_cons, ← pI t]
theorem Ip {B : Hp} : ∀ (ns : List Int), Paired (fun x v => (I x).p B v) ns (ns.map V.int)
  | [] => .nil
  | n :: ns => .cons rfl (Ip ns)
theorem pB {B : Hp} : ∀ {ns : List Bool} {vs : List V}, Paired (fun x v => (Bo x).p B v) ns vs → vs = ns.map V.bl
  | _, _, .nil => rfl
  | _, _, .cons h t => by
    cases (show _ = V.bl _ from h)
    rw [List.map_cons, ← pB t]
theorem rc_sum {ns : List Int} : RC S (rSum K) [L I ns] (I ns.sum) := fun vs B H s _ h Q k => by
  obtain ⟨v, rfl, a, u, rfl, ha, ws, rfl, hp⟩ := pps1 h
  cases pI hp
  exact ⟨a, ns, rfl, SqL.of (s a _ ha), k _ B H (Fr.refl s) rfl⟩
theorem rc_all {bs : List Bool} : RC S (rAll K) [L Bo bs] (Bo (bs.all id)) := fun vs B H s _ h Q k => by
  obtain ⟨v, rfl, a, u, rfl, ha, ws, rfl, hp⟩ := pps1 h
  cases pB hp
  exact ⟨a, bs, rfl, SqL.of (s a _ ha), k _ B H (Fr.refl s) rfl⟩
theorem rc_any {bs : List Bool} : RC S (rAny K) [L Bo bs] (Bo (bs.any id)) := fun vs B H s _ h Q k => by
  obtain ⟨v, rfl, a, u, rfl, ha, ws, rfl, hp⟩ := pps1 h
  cases pB hp
  exact ⟨a, bs, rfl, SqL.of (s a _ ha), k _ B H (Fr.refl s) rfl⟩
def imin : List Int → Int
  | [] => 0
  | [x] => x
  | x :: y :: r => if x ≤ imin (y :: r) then x else imin (y :: r)
def imax : List Int → Int
  | [] => 0
  | [x] => x
  | x :: y :: r => if imax (y :: r) ≤ x then x else imax (y :: r)
theorem imin_mem : ∀ (l : List Int), l ≠ [] → imin l ∈ l
  | [], h => absurd rfl h
  | [x], _ => by simp [imin]
  | x :: y :: r, _ => by
    have := imin_mem (y :: r) (by simp)
    unfold imin
    split
    · simp
    · exact List.mem_cons_of_mem _ this
theorem imin_le : ∀ (l : List Int) (y : Int), y ∈ l → imin l ≤ y
  | [], y, h => by simp at h
  | [x], y, h => by
    simp at h
    subst h
    exact Int.le_refl _
  | x :: z :: r, y, h => by
    have ih := imin_le (z :: r)
    unfold imin
    rcases List.mem_cons.mp h with rfl | h
    · split <;> omega
    · have := ih y h
      split <;> omega
theorem imax_mem : ∀ (l : List Int), l ≠ [] → imax l ∈ l
  | [], h => absurd rfl h
  | [x], _ => by simp [imax]
  | x :: y :: r, _ => by
    have := imax_mem (y :: r) (by simp)
    unfold imax
    split
    · simp
    · exact List.mem_cons_of_mem _ this
theorem imax_ge : ∀ (l : List Int) (y : Int), y ∈ l → y ≤ imax l
  | [], y, h => by simp at h
  | [x], y, h => by
    simp at h
    subst h
    exact Int.le_refl _
  | x :: z :: r, y, h => by
    have ih := imax_ge (z :: r)
    unfold imax
    rcases List.mem_cons.mp h with rfl | h
    · split <;> omega
    · have := ih y h
      split <;> omega
theorem rc_min {ns : List Int} (hn : ns ≠ []) : RC S (rMin K) [L I ns] (I (imin ns)) := fun vs B H s _ h Q k => by
  obtain ⟨v, rfl, a, u, rfl, ha, ws, rfl, hp⟩ := pps1 h
  cases pI hp
  refine ⟨a, ns, rfl, SqL.of (s a _ ha), List.length_pos_iff.mpr hn, fun m hm hle => ?_⟩
  have e : m = imin ns := by
    have h1 := hle _ (imin_mem ns hn)
    have h2 := imin_le ns m hm
    omega
  rw [e]
  exact k _ B H (Fr.refl s) rfl
theorem rc_max {ns : List Int} (hn : ns ≠ []) : RC S (rMax K) [L I ns] (I (imax ns)) := fun vs B H s _ h Q k => by
  obtain ⟨v, rfl, a, u, rfl, ha, ws, rfl, hp⟩ := pps1 h
  cases pI hp
  refine ⟨a, ns, rfl, SqL.of (s a _ ha), List.length_pos_iff.mpr hn, fun m hm hle => ?_⟩
  have e : m = imax ns := by
    have h1 := hle _ (imax_mem ns hn)
    have h2 := imax_ge ns m hm
    omega
  rw [e]
  exact k _ B H (Fr.refl s) rfl
theorem rc_min2 {i j : Int} : RC S (fun xs H Q => ∃ i j, xs = [.int i, .int j] ∧ Q (.int (if j < i then j else i)) H) [I i, I j] (I (if j < i then j else i)) := fun vs B H s _ h Q k => by
  obtain ⟨v, w, rfl, rfl, rfl⟩ := pps2 h
  exact ⟨i, j, rfl, k _ B H (Fr.refl s) rfl⟩
theorem rc_max2 {i j : Int} : RC S (fun xs H Q => ∃ i j, xs = [.int i, .int j] ∧ Q (.int (if j > i then j else i)) H) [I i, I j] (I (if j > i then j else i)) := fun vs B H s _ h Q k => by
  obtain ⟨v, w, rfl, rfl, rfl⟩ := pps2 h
  exact ⟨i, j, rfl, k _ B H (Fr.refl s) rfl⟩
/-! ### isinstance -/
theorem rc_isi {n m : String} {c : Bool} {P : HP} (ht : ∀ B H v, Same B H → S B H → P.p B v → TyX K H v (.type n)) (hk : kitB n m = some c) : RC S (rIsi K) [P, Ty m] (Bo c) := fun vs B H s hs h Q k => by
  obtain ⟨v, w, rfl, h1, rfl⟩ := pps2 h
  exact ⟨v, .ty m, _, _, c, rfl, .ty m, ht B H v s hs h1, kit_ty hk, k _ B H (Fr.refl s) rfl⟩
theorem ty_int {i : Int} {B H : Hp} {v : V} (s : Same B H) (hs : S B H) (h : (I i).p B v) : TyX K H v (.type "int") := by
  cases (show v = .int i from h)
  exact .base (.int i)
theorem ty_lst {B H : Hp} {v : V} (s : Same B H) (hs : S B H) (h : (L f xs).p B v) : TyX K H v (.type "list") := by
  obtain ⟨a, u, rfl, ha, ws, rfl, _⟩ := h
  exact .base (.lst (s a _ ha))
theorem ty_tup {B H : Hp} {v : V} (s : Same B H) (hs : S B H) (h : (Tu f xs).p B v) : TyX K H v (.type "tuple") := by
  obtain ⟨a, u, rfl, ha, ws, rfl, _⟩ := h
  exact .base (.tup (s a _ ha))
theorem ty_dic {kvs : List (Int × α)} {B H : Hp} {v : V} (s : Same B H) (hs : S B H) (h : (Dc f kvs).p B v) : TyX K H v (.type "dict") := by
  obtain ⟨a, u, rfl, ha, ws, rfl, _⟩ := h
  exact .base (.dK (s a _ ha))
theorem ty_dicO {kvs : List (Int × α)} {a : Addr} (ho : (a, oD f kvs) ∈ O) {B H : Hp} {v : V} (s : Same B H) (hs : Hold O B H) (h : (At a).p B v) : TyX K H v (.type "dict") := by
  obtain ⟨_, u, ha, ws, rfl, hp⟩ := hs _ ho
  cases (show v = .ref a from h)
  exact .base (.dK ha)
theorem ty_lstO {a : Addr} (ho : (a, oL f xs) ∈ O) {B H : Hp} {v : V} (s : Same B H) (hs : Hold O B H) (h : (At a).p B v) : TyX K H v (.type "list") := by
  obtain ⟨_, u, ha, ws, rfl, hp⟩ := hs _ ho
  cases (show v = .ref a from h)
  exact .base (.lst ha)
theorem clsV_tys : ∀ (ms : List String), Paired ClsV (ms.map V.ty) (ms.map Value.type)
  | [] => .nil
  | m :: ms => .cons (.ty m) (clsV_tys ms)
theorem pps_tys {B : Hp} : ∀ {ms : List String} {vs : List V}, Paired (fun (P : HP) v => P.p B v) (ms.map Ty) vs → vs = ms.map V.ty
  | [], _, .nil => rfl
  | m :: ms, _, .cons h t => by
    cases (show _ = V.ty m from h)
    rw [List.map_cons, ← pps_tys t]
theorem rc_isiT {n : String} {ms : List String} {c : Bool} {P : HP} (ht : ∀ B H v, Same B H → S B H → P.p B v → TyX K H v (.type n)) (hk : PySem.W.kitAny K (.type n) (ms.map Value.type) = some c) : RC S (rIsiT K) [P, Tp (ms.map Ty)] (Bo c) := fun vs B H s hs h Q k => by
  obtain ⟨v, w, rfl, h1, a, u, rfl, ha, ws, rfl, hp⟩ := pps2 h
  cases pps_tys hp
  exact ⟨v, a, _, _, _, c, rfl, s a _ ha, clsV_tys ms, ht B H v s hs h1, hk, k _ B H (Fr.refl s) rfl⟩
/-! ### lists -/
theorem rv_cat (hl : xs.length + ys.length ≤ 100000) : RV S rCat (L f xs) (L f ys) (L f (xs ++ ys)) := fun x y B H s _ hx hy Q k => by
  obtain ⟨a, u, rfl, ha, ws, rfl, hp⟩ := hx
  obtain ⟨c, w, rfl, hc, zs, rfl, hq⟩ := hy
  refine ⟨a, c, ws, zs, rfl, rfl, s a _ ha, s c _ hc, by rw [← hp.length, ← hq.length]; exact sz_le hl, fun p hp0 => ?_⟩
  have f1 := Fr.new (o := .lst (ws ++ zs)) s hp0
  refine k _ _ _ f1 ⟨p, _, rfl, upd_same, _, rfl, ?_⟩
  have g : ∀ {α : Type} {F : α → V → Prop} {l l' : List α} {v v' : List V}, Paired F l v → Paired F l' v' → Paired F (l ++ l') (v ++ v') := by
    intro α F l l' v v' h1 h2
    induction h1 with
    | nil => exact h2
    | cons h t ih => exact .cons h ih
  exact g (paired_mono f1.bb hp) (paired_mono f1.bb hq)
theorem paired_take {α β : Type} {F : α → β → Prop} : ∀ {l : List α} {v : List β} (n : Nat), Paired F l v → Paired F (l.take n) (v.take n)
  | _, _, 0, _ => by simpa using .nil
  | _, _, n + 1, .nil => .nil
  | _, _, n + 1, .cons h t => .cons h (paired_take n t)
theorem paired_drop {α β : Type} {F : α → β → Prop} : ∀ {l : List α} {v : List β} (n : Nat), Paired F l v → Paired F (l.drop n) (v.drop n)
  | _, _, 0, h => h
  | _, _, n + 1, .nil => .nil
  | _, _, n + 1, .cons h t => paired_drop n t
theorem paired_rev {α β : Type} {F : α → β → Prop} {l : List α} {v : List β} (h : Paired F l v) : Paired F l.reverse v.reverse := by
  induction h with
  | nil => exact .nil
  | cons h t ih =>
    rw [List.reverse_cons, List.reverse_cons]
    exact ih.snoc h
/-- xs[1:] -/
theorem ev_sl1 (h : Ev b te G O (L f xs) O1) : Ev b (tSl (rSlL K) te (tPart (tC (.int 1))) tNoPart) G O (L f (xs.drop 1)) O1 := fun σ B H S Q k =>
  h σ B H S _ fun v B1 H1 s1 S1 hv => by
    obtain ⟨a, u, rfl, ha, ws, rfl, hp⟩ := hv
    refine ⟨1, rfl, a, ws, rfl, SqL.of (S1.bh a _ ha), fun p hp0 => ?_⟩
    have e : cutV ws (some 1) none = ws.drop 1 := by
      unfold cutV
      cases ws with
      | nil => simp
      | cons w ws =>
        have e1 : HT.sIx (w :: ws).length 0 (some 1) = 1 := by
          simp [HT.sIx]
        have e2 : HT.sIx (w :: ws).length (w :: ws).length none = (w :: ws).length := by
          simp [HT.sIx]
        rw [e1, e2]
        simp
    rw [e]
    have f1 := Fr.new (o := .lst (ws.drop 1)) S1.bh hp0
    exact k _ _ _ (s1.trans f1.bb) (S1.step f1) ⟨p, _, rfl, upd_same, _, rfl, paired_mono f1.bb (paired_drop 1 hp)⟩
/-- xs[::-1] -/
theorem ev_rev (h : Ev b te G O (L f xs) O1) : Ev b (tRevL K te) G O (L f xs.reverse) O1 := fun σ B H S Q k =>
  h σ B H S _ fun v B1 H1 s1 S1 hv => by
    obtain ⟨a, u, rfl, ha, ws, rfl, hp⟩ := hv
    refine ⟨a, ws, rfl, SqL.of (S1.bh a _ ha), fun p hp0 => ?_⟩
    have f1 := Fr.new (o := .lst ws.reverse) S1.bh hp0
    exact k _ _ _ (s1.trans f1.bb) (S1.step f1) ⟨p, _, rfl, upd_same, _, rfl, paired_mono f1.bb (paired_rev hp)⟩
theorem inV_ints (i : Int) : ∀ (ns : List Int), inV (.int i) (ns.map V.int) = decide (i ∈ ns)
  | [] => by simp [inV]
  | n :: ns => by
    have ih := inV_ints i ns
    unfold inV at ih ⊢
    rw [List.map_cons, List.any_cons, ih]
    have : eqV (.int n) (.int i) = decide (n = i) := by
      show (n == i) = _
      by_cases z : n = i <;> simp [z]
    rw [this]
    by_cases h : n = i
    · simp [h]
    · have h' : ¬ i = n := fun z => h z.symm
      simp [h, h']
theorem flat_ints (ns : List Int) : (ns.map V.int).all flatV = true := by
  simp [List.all_map, flatV]
theorem rv_inL {i : Int} {ns : List Int} : RV S (rIn K false) (I i) (L I ns) (Bo (decide (i ∈ ns))) := fun x y B H s _ hx hy Q k => by
  obtain ⟨a, u, rfl, ha, ws, rfl, hp⟩ := hy
  cases pI hp
  cases (show x = .int i from hx)
  exact ⟨a, _, rfl, .inl (SqL.of (s a _ ha)), rfl, flat_ints ns, k _ B H (Fr.refl s) (by rw [inV_ints]; rfl)⟩
/-! ### dicts -/
def dl (kvs : List (Int × α)) (k : Int) : Option α := (kvs.find? fun kv => decide (kv.1 = k)).map (·.2)
theorem dl_val {B : Hp} {k : Int} : ∀ {kvs : List (Int × α)} {vs : List (Key × V)}, Paired (fun x v => v.1 = Sum.inl x.1 ∧ (f x.2).p B v.2) kvs vs →
    match dl kvs k, valV vs (Sum.inl k) with
    | some x, some v => (f x).p B v
    | none, none => True
    | _, _ => False
  | _, _, .nil => trivial
  | (j, x) :: kvs, (q, v) :: vs, .cons h t => by
    have ih := dl_val (k := k) t
    obtain ⟨h1, h2⟩ := h
    by_cases e : j = k
    · have e1 : dl ((j, x) :: kvs) k = some x := by simp [dl, List.find?_cons, e]
      have e2 : valV ((q, v) :: vs) (Sum.inl k) = some v := by
        refine valV_pos ?_
        show q = _
        rw [show q = Sum.inl j from h1, e]
      rw [e1, e2]
      exact h2
    · have e1 : dl ((j, x) :: kvs) k = dl kvs k := by simp [dl, List.find?_cons, e]
      have e2 : valV ((q, v) :: vs) (Sum.inl k) = valV vs (Sum.inl k) := by
        refine valV_neg ?_
        show ¬ q = _
        rw [show q = Sum.inl j from h1]
        intro z
        exact e (Sum.inl.inj z)
      rw [e1, e2]
      exact ih
theorem dl_some {B : Hp} {k : Int} {x : α} {kvs : List (Int × α)} {vs : List (Key × V)} (h : Paired (fun x v => v.1 = Sum.inl x.1 ∧ (f x.2).p B v.2) kvs vs) (e : dl kvs k = some x) : ∃ v, valV vs (Sum.inl k) = some v ∧ (f x).p B v := by
  have q := dl_val (k := k) h
  rw [e] at q
  cases hv : valV vs (Sum.inl k) with
  | none =>
    rw [hv] at q
    exact q.elim
  | some v =>
    rw [hv] at q
    exact ⟨v, rfl, q⟩
theorem dl_is {B : Hp} {k : Int} {kvs : List (Int × α)} {vs : List (Key × V)} (h : Paired (fun x v => v.1 = Sum.inl x.1 ∧ (f x.2).p B v.2) kvs vs) : (valV vs (Sum.inl k)).isSome = (dl kvs k).isSome := by
  have q := dl_val (k := k) h
  cases e : dl kvs k <;> cases hv : valV vs (Sum.inl k) <;> rw [e, hv] at q <;> first | rfl | exact q.elim
/-- what a dict is told by: seen, or owned -/
inductive DAt (O : List Ow) (f : α → HP) (kvs : List (Int × α)) : HP → Prop
  | seen : DAt O f kvs (Dc f kvs)
  | own {a : Addr} : (a, oD f kvs) ∈ O → DAt O f kvs (At a)
theorem DAt.get {kvs : List (Int × α)} (d : DAt O f kvs P) {B H : Hp} {v : V} (s : Same B H) (hs : Hold O B H) (h : P.p B v) : ∃ a vs, v = .ref a ∧ H a = some (.dK vs) ∧ Paired (fun x v => v.1 = Sum.inl x.1 ∧ (f x.2).p B v.2) kvs vs := by
  cases d with
  | seen =>
    obtain ⟨a, u, rfl, ha, ws, rfl, hp⟩ := h
    exact ⟨a, ws, rfl, s a _ ha, hp⟩
  | own ho =>
    obtain ⟨_, u, ha, ws, rfl, hp⟩ := hs _ ho
    exact ⟨_, ws, h, ha, hp⟩
theorem ev_dget {kvs : List (Int × α)} {k : Int} {x : α} (h : Ev b td G O P O1) (hk : Ev b ty G O1 (I k) O2) (d : DAt O2 f kvs P) (e : dl kvs k = some x) : Ev b (tDGet td ty) G O (f x) O2 := fun σ B H S Q q =>
  h σ B H S _ fun v B1 H1 s1 S1 hv => hk σ B1 H1 S1 _ fun w B2 H2 s2 S2 hw => by
    obtain ⟨a, vs, rfl, ha, hp⟩ := d.get S2.bh S2.hold (P.m s2 hv)
    obtain ⟨y, hy, hf⟩ := dl_some hp e
    cases (show w = .int k from hw)
    exact ⟨a, y, rfl, hy ▸ DGet.k (k := Sum.inl k) ha, q y B2 H2 (s1.trans s2) S2 hf⟩
theorem ev_din {kvs : List (Int × α)} {k : Int} (hk : Ev b ty G O (I k) O1) (h : Ev b td G O1 P O2) (d : DAt O2 f kvs P) : Ev b (tDIn ty td) G O (Bo (dl kvs k).isSome) O2 := fun σ B H S Q q =>
  hk σ B H S _ fun w B1 H1 s1 S1 hw => h σ B1 H1 S1 _ fun v B2 H2 s2 S2 hv => by
    obtain ⟨a, vs, rfl, ha, hp⟩ := d.get S2.bh S2.hold hv
    cases (show w = .int k from hw)
    exact ⟨a, _, rfl, DGet.k (k := Sum.inl k) ha, q _ B2 H2 (s1.trans s2) S2 (by rw [dl_is hp]; rfl)⟩
theorem ev_dnotin {kvs : List (Int × α)} {k : Int} (hk : Ev b ty G O (I k) O1) (h : Ev b td G O1 P O2) (d : DAt O2 f kvs P) : Ev b (tDNotIn ty td) G O (Bo (!(dl kvs k).isSome)) O2 := fun σ B H S Q q =>
  hk σ B H S _ fun w B1 H1 s1 S1 hw => h σ B1 H1 S1 _ fun v B2 H2 s2 S2 hv => by
    obtain ⟨a, vs, rfl, ha, hp⟩ := d.get S2.bh S2.hold hv
    cases (show w = .int k from hw)
    exact ⟨a, _, rfl, DGet.k (k := Sum.inl k) ha, q _ B2 H2 (s1.trans s2) S2 (by rw [dl_is hp]; rfl)⟩
/-- d.get(k, x) -/
theorem ev_dget2 {kvs : List (Int × α)} {k : Int} {x : α} (h : Ev b td G O P O1) (hk : Ev b ty G O1 (I k) O1) (hx : Ev b te G O1 (f x) O1) (d : DAt O1 f kvs P) : Ev b (tDGet2 td ty te) G O (f ((dl kvs k).getD x)) O1 := fun σ B H S Q q =>
  h σ B H S _ fun v B1 H1 s1 S1 hv => by
    obtain ⟨a, vs1, rfl, ha1, _⟩ := d.get S1.bh S1.hold hv
    refine ⟨a, rfl, .inl ⟨vs1, .inl ha1⟩, hk σ B1 H1 S1 _ fun w B2 H2 s2 S2 hw => hx σ B2 H2 S2 _ fun z B3 H3 s3 S3 hz => ?_⟩
    obtain ⟨a', vs, e, ha, hp⟩ := d.get S3.bh S3.hold (P.m (s2.trans s3) hv)
    cases e
    cases (show w = .int k from hw)
    refine ⟨_, DGet.k (k := Sum.inl k) ha, q _ B3 H3 ((s1.trans s2).trans s3) S3 ?_⟩
    cases e : dl kvs k with
    | none =>
      have q := dl_val (k := k) hp
      rw [e] at q
      cases hv2 : valV vs (Sum.inl k) with
      | none => exact hz
      | some v =>
        rw [hv2] at q
        exact q.elim
    | some y =>
      obtain ⟨v, hv2, hf⟩ := dl_some hp e
      rw [hv2]
      exact hf
end
end Rb

set_option Elab.async false
set_option linter.all false
set_option maxRecDepth 100000
set_option maxHeartbeats 4000000
namespace Rb
open PySem L2
section
variable {b : Bs} {G G' G1 G2 G3 : List (Option HP)} {O O1 O2 O3 O' : List Ow} {P P1 P2 P3 R : HP} {ta tb tc te td ty : TE} {tt tu : TT} {r : R2} {K : PySem.W.Frag} {α ζ : Type} {f : α → HP} {xs ys : List α}
/-! ### statements -/
def Go (b : Bs) (t : TS) (G : List (Option HP)) (O : List Ow) (D : Ends) : Prop := ∀ σ B H, Sta b G O σ B H → t D σ H
abbrev Nx (b : Bs) (G : List (Option HP)) (O : List Ow) (N : L2.St → Hp → Prop) : Prop := ∀ σ B H, Sta b G O σ B H → N σ H
def Pst (b : Bs) (G : List (Option HP)) (O : List Ow) : L2.St → Hp → Prop := fun σ H => ∃ B, Sta b G O σ B H
abbrev Fin (b : Bs) (R : HP) (Q : VK) : Prop := ∀ v B H, Same b.B0 B → Same B H → Same b.H0 H → (∀ a, b.H0 a ≠ none → B a = b.B0 a) → R.p B v → Q v H
variable {D : Ends} {t u : TS}
theorem nx_pst (w : Wkn G' G) : Nx b G O (Pst b G' O) := fun σ B H S => ⟨B, S.weak w⟩
theorem nx_pst' (w : Wkn G' G) (e : O = O') : Nx b G O (Pst b G' O') := fun σ B H S => ⟨B, e ▸ S.weak w⟩
theorem go_seq (h : Go b t G O { D with nx := u D }) : Go b (tSeq t u) G O D := h
theorem go_next (h : Nx b G O D.nx) : Go b tNext G O D := h
theorem go_weak (w : Wkn G' G) (h : Go b t G' O D) : Go b t G O D := fun σ B H S => h σ B H (S.weak w)
theorem go_perm (w : O'.Perm O) (h : Go b t G O' D) : Go b t G O D := fun σ B H S => h σ B H (S.perm w)
theorem go_less (w : ∀ x ∈ O', x ∈ O) (n : ∀ σ B H, Sta b G O σ B H → (O'.map (·.1)).Nodup) (h : Go b t G O' D) : Go b t G O D := fun σ B H S => h σ B H (S.owned w (n σ B H S))
/-- an owned object, held by slot i, is handed over -/
theorem go_free {i : Nat} {a : Addr} {o : OP} (hi : G[i]? = some (some (At a))) (h : Go b t (G.set i (some (Ob o))) O D) : Go b t G ((a, o) :: O) D := fun σ B H S => by
  obtain ⟨B', S', q, s⟩ := S.free
  obtain ⟨v, e, hv⟩ := S.sl i _ hi
  cases (show v = .ref a from hv)
  have S2 := S'.set (i := i) q
  have e2 : σ.set i (some (.ref a)) = σ := by
    obtain ⟨h1, h2⟩ := List.getElem?_eq_some_iff.mp e
    rw [← h2]
    exact List.set_getElem_self h1
  rw [e2] at S2
  exact h σ B' H S2
def Tg (g : TG) (P : HP) (G G' : List (Option HP)) (vs : List Nat) : Prop := ∀ b O σ B H v, Sta b G O σ B H → P.p B v → ∀ Q : L2.St → Hp → Prop, (∀ σ', wipe σ' vs = wipe σ vs → Sta b G' O σ' B H → Q σ' H) → g v σ H Q
theorem wipe_set {σ : L2.St} {i : Nat} {x : Option V} : ∀ {vs : List Nat}, i ∈ vs → wipe (σ.set i x) vs = wipe σ vs
  | [], h => by simp at h
  | v :: vs, h => by
    unfold wipe
    by_cases hi : i ∈ vs
    · rw [wipe_set hi]
    · have hv : i = v := by
        rcases List.mem_cons.mp h with e | e
        · exact e
        · exact absurd e hi
      subst hv
      have g : ∀ (ws : List Nat), i ∉ ws → wipe (σ.set i x) ws = (wipe σ ws).set i x := by
        intro ws
        induction ws with
        | nil =>
          intro _
          rfl
        | cons w ws ih =>
          intro hw
          have h1 : i ≠ w := fun z => hw (by simp [z])
          have h2 : i ∉ ws := fun z => hw (List.mem_cons_of_mem _ z)
          unfold wipe
          rw [ih h2, List.set_comm _ _ h1]
      rw [g vs hi, List.set_set]
theorem wipe_wipe {σ : L2.St} : ∀ (vs ws : List Nat), (∀ v ∈ ws, v ∈ vs) → wipe (wipe σ ws) vs = wipe σ vs
  | vs, [], _ => rfl
  | vs, w :: ws, h => by
    show wipe ((wipe σ ws).set w none) vs = _
    rw [wipe_set (h w (by simp)), wipe_wipe vs ws fun v hv => h v (List.mem_cons_of_mem _ hv)]
theorem tg_name {i : Nat} {vs : List Nat} (h : i ∈ vs := by decide) : Tg (gName i) P G (G.set i (some P)) vs := fun b O σ B H v S hv Q k => k _ (wipe_set h) (S.set hv)
theorem tg_pps {g1 g2 : TG} {vs : List Nat} (h1 : Tg g1 P1 G G1 vs) (h2 : Tg g2 P2 G1 G2 vs) : Tg (gTup K 2 (gCons g1 (gCons g2 gNil))) (Tp [P1, P2]) G G2 vs := fun b O σ B H v S hv Q k => by
  obtain ⟨a, u, rfl, ha, ws, rfl, hp⟩ := hv
  obtain ⟨x, y, rfl, hx, hy⟩ := pps2 hp
  exact ⟨a, _, rfl, SqT.of (S.bh a _ ha), rfl, x, _, rfl, h1 b O σ B H x S hx _ fun σ1 w1 S1 => ⟨y, _, rfl, h2 b O σ1 B H y S1 hy _ fun σ2 w2 S2 => ⟨rfl, k σ2 (w2.trans w1) S2⟩⟩⟩
theorem tg_pps3 {g1 g2 g3 : TG} {vs : List Nat} (h1 : Tg g1 P1 G G1 vs) (h2 : Tg g2 P2 G1 G2 vs) (h3 : Tg g3 P3 G2 G3 vs) : Tg (gTup K 3 (gCons g1 (gCons g2 (gCons g3 gNil)))) (Tp [P1, P2, P3]) G G3 vs := fun b O σ B H v S hv Q k => by
  obtain ⟨a, u, rfl, ha, ws, rfl, hp⟩ := hv
  obtain ⟨x, y, z, rfl, hx, hy, hz⟩ := pps3 hp
  exact ⟨a, _, rfl, SqT.of (S.bh a _ ha), rfl, x, _, rfl, h1 b O σ B H x S hx _ fun σ1 w1 S1 => ⟨y, _, rfl, h2 b O σ1 B H y S1 hy _ fun σ2 w2 S2 => ⟨z, _, rfl, h3 b O σ2 B H z S2 hz _ fun σ3 w3 S3 => ⟨rfl, k σ3 ((w3.trans w2).trans w1) S3⟩⟩⟩⟩
theorem go_asg {i : Nat} (h : Ev b te G O P O1) (k : Nx b (G.set i (some P)) O1 D.nx) : Go b (tAsg te (gName i)) G O D := fun σ B H S => h σ B H S _ fun v B' H' s S' hv => k _ B' H' (S'.set hv)
theorem go_asgX {β : Type} {P : β → HP} {O1 : β → List Ow} {i : Nat} (h : EvX b te G O P O1) (k : ∀ y, Nx b (G.set i (some (P y))) (O1 y) D.nx) : Go b (tAsg te (gName i)) G O D := fun σ B H S => h σ B H S _ fun y v B' H' s S' hv => k y _ B' H' (S'.set hv)
theorem go_asgT {g : TG} {vs : List Nat} (h : Ev b te G O P O1) (hg : Tg g P G G1 vs) (k : Nx b G1 O1 D.nx) : Go b (tAsg te g) G O D := fun σ B H S => h σ B H S _ fun v B' H' s S' hv => hg b O1 σ B' H' v S' hv _ fun σ' _ S2 => k σ' B' H' S2
theorem go_asgTX {β : Type} {P : β → HP} {O1 : β → List Ow} {Gy : β → List (Option HP)} {g : TG} {vs : List Nat} (h : EvX b te G O P O1) (hg : ∀ y, Tg g (P y) G (Gy y) vs) (k : ∀ y, Nx b (Gy y) (O1 y) D.nx) : Go b (tAsg te g) G O D := fun σ B H S => h σ B H S _ fun y v B' H' s S' hv => hg y b (O1 y) σ B' H' v S' hv _ fun σ' _ S2 => k y σ' B' H' S2
theorem go_drop (h : Ev b te G O P O1) (k : Nx b G O1 D.nx) : Go b (tDrop te) G O D := fun σ B H S => h σ B H S _ fun v B' H' s S' hv => k σ B' H' S'
theorem go_ret (h : Ev b te G O P O1) (k : Fin b P D.rt) : Go b (tRet te) G O D := fun σ B H S => h σ B H S _ fun v B' H' s S' hv => k v B' H' S'.bb S'.bh S'.hh S'.fz hv
theorem go_ret' (h : Ev b te G O P O1) (e : P = R) (k : Fin b R D.rt) : Go b (tRet te) G O D := go_ret (h.cast e) k
theorem go_if {c : Bool} (h : EvT b tt G O c O1) (h1 : c = true → Go b t G O1 D) (h2 : c = false → Go b u G O1 D) : Go b (tIfS tt t u) G O D := fun σ B H S => h σ B H S _ fun B' H' s S' => by
  cases c with
  | true => exact h1 rfl σ B' H' S'
  | false => exact h2 rfl σ B' H' S'
/-- xs.append(e) of an owned list -/
theorem go_app {l : Addr} {x : α} (ha : Ev b ta G O (At l) O) (he : Ev b te G O (f x) ((l, oL f xs) :: O2)) (ho : ∃ o ys, (l, o) ∈ O ∧ o = oL f ys) (hl : xs.length < 100000) (k : Nx b G ((l, oL f (xs ++ [x])) :: O2) D.nx) :
    Go b (tDrop (tBM K "list" rAppend ta (tCons te tNil))) G O D := fun σ B H S => ha σ B H S _ fun v B1 H1 s1 S1 hv => by
  cases (show v = .ref l from hv)
  obtain ⟨o, zs, ho, rfl⟩ := ho
  obtain ⟨_, _, u, hu, ws, rfl, _⟩ := S1.ow _ ho
  refine ⟨.inl ⟨rfl, _, SqL.of hu⟩, he σ B1 H1 S1 _ fun w B2 H2 s2 S2 hw => ?_⟩
  obtain ⟨_, h2, u, hu, vs, rfl, hp⟩ := S2.ow _ (List.mem_cons_self ..)
  refine ⟨l, vs, w, rfl, rfl, hu, by rw [← hp.length]; exact sz_lt' hl, k σ B2 _ (S2.put ⟨_, rfl, hp.snoc hw⟩)⟩
/-! ### dicts stored -/
def dp (kvs : List (Int × α)) (k : Int) (x : α) : List (Int × α) := if (dl kvs k).isSome = true then kvs.map (fun kv => if kv.1 = k then (kv.1, x) else kv) else kvs ++ [(k, x)]
theorem dp_map {B : Hp} {k : Int} {x : α} {v : V} (hx : (f x).p B v) {kvs : List (Int × α)} {vs : List (Key × V)} (h : Paired (fun x v => v.1 = Sum.inl x.1 ∧ (f x.2).p B v.2) kvs vs) :
    Paired (fun x v => v.1 = Sum.inl x.1 ∧ (f x.2).p B v.2) (kvs.map (fun kv => if kv.1 = k then (kv.1, x) else kv)) (vs.map (fun kv => if kv.1 = Sum.inl k then (kv.1, v) else kv)) := by
  induction h with
  | nil => exact .nil
  | @cons a v' l1 l2 h t ih =>
    obtain ⟨h1, h2⟩ := h
    refine .cons ?_ ih
    by_cases e : a.1 = k
    · simp only
      rw [if_pos e, if_pos (by rw [h1, e])]
      exact ⟨h1, hx⟩
    · simp only
      rw [if_neg e, if_neg (by rw [h1]; intro z; exact e (Sum.inl.inj z))]
      exact ⟨h1, h2⟩
theorem dp_put {B : Hp} {k : Int} {x : α} {v : V} (hx : (f x).p B v) {kvs : List (Int × α)} {vs : List (Key × V)} (h : Paired (fun x v => v.1 = Sum.inl x.1 ∧ (f x.2).p B v.2) kvs vs) :
    Paired (fun x v => v.1 = Sum.inl x.1 ∧ (f x.2).p B v.2) (dp kvs k x) (putK vs (Sum.inl k) v) := by
  unfold dp putK
  rw [valV_any, dl_is h]
  split
  · exact dp_map hx h
  · exact h.snoc ⟨rfl, hx⟩
theorem paired_put_len {k : Int} {x : α} (kvs : List (Int × α)) : (dp kvs k x).length ≤ kvs.length + 1 := by
  unfold dp
  split <;> simp
/-- d[k] = v, d owned -/
theorem go_dput {d : Addr} {kvs : List (Int × α)} {k : Int} {x : α} (hv : Ev b te G O (f x) O1) (hd : Ev b td G O1 (At d) O1) (hk : Ev b ty G O1 (I k) ((d, oD f kvs) :: O2)) (hl : kvs.length < 100000) (n : Nx b G ((d, oD f (dp kvs k x)) :: O2) D.nx) : Go b (sDPut td ty te) G O D := fun σ B H S =>
  hv σ B H S _ fun v B1 H1 s1 S1 hv => hd σ B1 H1 S1 _ fun w B2 H2 s2 S2 hw => hk σ B2 H2 S2 _ fun z B3 H3 s3 S3 hz => by
    cases (show w = .ref d from hw)
    cases (show z = .int k from hz)
    obtain ⟨_, h2, u, hu, vs, rfl, hp⟩ := S3.ow _ (List.mem_cons_self ..)
    exact ⟨d, _, rfl, DPut.k (k := Sum.inl k) hu (by rw [← hp.length]; exact sz_lt' hl), n σ B3 _ (S3.put ⟨_, rfl, dp_put ((f x).m (s2.trans s3) hv) hp⟩)⟩
/-- xs[i] = v, xs owned -/
theorem go_setL {l : Addr} {k : Int} {j : Nat} {x : α} (hv : Ev b te G O (f x) O1) (hd : Ev b td G O1 (At l) O1) (hk : Ev b ty G O1 (I k) ((l, oL f xs) :: O2)) (hj : ixN xs.length k = some j) (n : Nx b G ((l, oL f (xs.set j x)) :: O2) D.nx) : Go b (tAsg te (gSub td ty rSetL)) G O D := fun σ B H S =>
  hv σ B H S _ fun v B1 H1 s1 S1 hv => hd σ B1 H1 S1 _ fun w B2 H2 s2 S2 hw => hk σ B2 H2 S2 _ fun z B3 H3 s3 S3 hz => by
    cases (show w = .ref l from hw)
    cases (show z = .int k from hz)
    obtain ⟨_, h2, u, hu, vs, rfl, hp⟩ := S3.ow _ (List.mem_cons_self ..)
    have ps : ∀ {α : Type} {F : α → V → Prop} {l : List α} {v : List V} (j : Nat) (x : α) (w : V), F x w → Paired F l v → Paired F (l.set j x) (v.set j w) := by
      intro α F l v j x w hx h
      induction h generalizing j with
      | nil => exact .nil
      | cons h t ih =>
        cases j with
        | zero => exact .cons hx t
        | succ j => exact .cons h (ih j)
    exact ⟨l, vs, k, j, rfl, rfl, hu, by rw [← hp.length]; exact hj, n σ B3 _ (S3.put ⟨_, rfl, ps j x v ((f x).m (s2.trans s3) hv) hp⟩)⟩
/-! ### walks -/
structure Wlk (J : It) (b : Bs) (B1 : Hp) (zs : List ζ) (y : ζ → HP) : Prop where
  go : ∀ i H, i < zs.length → Same B1 H → Same b.H0 H → J.go i H
  stop : ∀ H, Same B1 H → Same b.H0 H → J.stop zs.length H
  yld : ∀ i z H x H', zs[i]? = some z → Same B1 H → Same b.H0 H → J.yld i H x H' → ∀ B, Same B1 B → Same B H → ∃ B', Fr B H B' H' ∧ (y z).p B' x
def Src (b : Bs) (wi : TI) (G : List (Option HP)) (O : List Ow) (zs : List ζ) (y : ζ → HP) (O1 : List Ow) : Prop := ∀ σ B H, Sta b G O σ B H → ∀ Q : It → Hp → Prop, (∀ J B1 H1, Same B B1 → Sta b G O1 σ B1 H1 → Wlk J b B1 zs y → Q J H1) → wi σ H Q
/-- a later base: more is seen, the frame is the same -/
structure Reb (b b' : Bs) : Prop where
  hh : b'.H0 = b.H0
  bb : Same b.B0 b'.B0
  fz : ∀ a, b.H0 a ≠ none → b'.B0 a = b.B0 a
theorem Reb.refl : Reb b b := ⟨rfl, Same.refl _, fun _ _ => rfl⟩
theorem Reb.trans {b1 b2 : Bs} (r : Reb b b1) (q : Reb b1 b2) : Reb b b2 := ⟨q.hh.trans r.hh, r.bb.trans q.bb, fun a h => by rw [q.fz a (by rw [r.hh]; exact h), r.fz a h]⟩
theorem Sta.reb {b' : Bs} {σ : L2.St} {B H : Hp} (r : Reb b b') (S : Sta b' G O σ B H) : Sta b G O σ B H :=
  ⟨S.len, r.bb.trans S.bb, S.bh, r.hh ▸ S.hh, fun a h => by rw [S.fz a (by rw [r.hh]; exact h), r.fz a h], S.sl, fun x hx => by have := S.ow x hx; rw [r.hh] at this; exact this, S.nd⟩
theorem Sta.to {σ σ' : L2.St} {B1 B H1 H : Hp} (S : Sta b G O σ B1 H1) (S' : Sta b G' O' σ' B H) (s : Same B1 B) : Sta ⟨B1, b.H0⟩ G' O' σ' B H :=
  ⟨S'.len, s, S'.bh, S'.hh, fun a h => by rw [S'.fz a h]; exact (S.fz a h).symm, S'.sl, S'.ow, S'.nd⟩
theorem Sta.rebase {σ : L2.St} {B H : Hp} (S : Sta b G O σ B H) : Reb b ⟨B, b.H0⟩ := ⟨rfl, S.bb, fun a h => S.fz a h⟩
theorem Fin.reb {b' : Bs} {Q : VK} (r : Reb b b') (k : Fin b R Q) : Fin b' R Q := fun v B H h1 h2 h3 h4 h5 => k v B H (r.bb.trans h1) h2 (r.hh ▸ h3) (fun a h => by rw [h4 a (by rw [r.hh]; exact h), r.fz a h]) h5
theorem Nx.reb {b' : Bs} {N : L2.St → Hp → Prop} (r : Reb b b') (k : Nx b G O N) : Nx b' G O N := fun σ B H S => k σ B H (S.reb r)
theorem go_for {wi : TI} {g : TG} {zs : List ζ} {y : ζ → HP} {vs : List Nat} (hs : Src b wi G O zs y O1) (Gi : Nat → List (Option HP)) (Oi : Nat → List Ow) (Gt : Nat → ζ → List (Option HP)) (w0 : Wkn (Gi 0) G) (e0 : O1 = Oi 0)
    (ht : ∀ i z, zs[i]? = some z → Tg g (y z) (Gi i) (Gt i z) vs) (hb : ∀ b', Reb b b' → ∀ i z, zs[i]? = some z → Go b' t (Gt i z) (Oi i) { D with nx := Pst b' (Gi (i + 1)) (Oi (i + 1)), ct := Pst b' (Gi (i + 1)) (Oi (i + 1)), bk := D.nx })
    (hd : Nx b (Gi zs.length) (Oi zs.length) D.nx) : Go b (tFor wi g t) G O D := fun σ B H S => hs σ B H S _ fun J B1 H1 s1 S1 W => by
  subst e0
  have r1 : Reb b ⟨B1, b.H0⟩ := S1.rebase
  refine ⟨fun i m σ' H' => m = zs.length - i ∧ i ≤ zs.length ∧ Pst ⟨B1, b.H0⟩ (Gi i) (Oi i) σ' H', ⟨_, rfl, Nat.zero_le _, B1, S1.to (S1.weak w0) (Same.refl _)⟩, ?_⟩
  rintro i m σ' H' ⟨rfl, hi, B', S'⟩
  by_cases hlt : i < zs.length
  · refine .inr ⟨W.go i H' hlt (S'.bb.trans S'.bh) S'.hh, Pst ⟨B1, b.H0⟩ (Gi (i + 1)) (Oi (i + 1)), fun σ2 H2 p2 => ⟨zs.length - (i + 1), by omega, rfl, hlt, p2⟩, fun x H2 yl => ?_⟩
    have hz : zs[i]? = some zs[i] := by simp [hlt]
    obtain ⟨B2, fr, hx⟩ := W.yld i _ H' x H2 hz (S'.bb.trans S'.bh) S'.hh yl B' S'.bb S'.bh
    exact ht i _ hz ⟨B1, b.H0⟩ (Oi i) σ' B2 H2 x (S'.step fr) hx _ fun σ3 _ S3 => hb _ r1 i _ hz σ3 B2 H2 S3
  · have e : i = zs.length := by omega
    subst e
    exact .inl ⟨W.stop H' (S'.bb.trans S'.bh) S'.hh, hd σ' B' H' (S'.reb r1)⟩
/-! ### what is walked -/
theorem src_list {tl : TE} (h : Ev b tl G O (L f xs) O1) : Src b (iList K tl) G O xs f O1 := fun σ B H S Q k => h σ B H S _ fun v B1 H1 s1 S1 hv => by
  obtain ⟨a, u, rfl, ha, vs, rfl, hp⟩ := hv
  refine ⟨a, rfl, ⟨vs, SqL.of (S1.bh a _ ha)⟩, k _ B1 H1 s1 S1 ⟨fun i H2 hi s _ => ?_, fun H2 s _ => ?_, fun i z H2 x H3 hz s _ yl B2 sB sH => ?_⟩⟩
  · exact ⟨vs, vs[i]'(by rw [← hp.length]; exact hi), SqL.of (s a _ ha), by simp [← hp.length, hi]⟩
  · exact ⟨vs, SqL.of (s a _ ha), by rw [hp.length]; exact Nat.le_refl _⟩
  · obtain ⟨rfl, hx⟩ := yl
    obtain ⟨w, hw, hf⟩ := paired_get hp hz
    have := hx vs (SqL.of (s a _ ha))
    rw [hw] at this
    cases this
    exact ⟨B2, Fr.refl sH, (f z).m sB hf⟩
theorem src_tup {tl : TE} (h : Ev b tl G O (Tu f xs) O1) : Src b (iTup K tl) G O xs f O1 := fun σ B H S Q k => h σ B H S _ fun v B1 H1 s1 S1 hv => by
  obtain ⟨a, u, rfl, ha, vs, rfl, hp⟩ := hv
  refine ⟨a, rfl, ⟨vs, SqT.of (S1.bh a _ ha)⟩, k _ B1 H1 s1 S1 ⟨fun i H2 hi s _ => ?_, fun H2 s _ => ?_, fun i z H2 x H3 hz s _ yl B2 sB sH => ?_⟩⟩
  · exact ⟨vs, vs[i]'(by rw [← hp.length]; exact hi), SqT.of (s a _ ha), by simp [← hp.length, hi]⟩
  · exact ⟨vs, SqT.of (s a _ ha), by rw [hp.length]; exact Nat.le_refl _⟩
  · obtain ⟨rfl, hx⟩ := yl
    obtain ⟨w, hw, hf⟩ := paired_get hp hz
    have := hx vs (SqT.of (s a _ ha))
    rw [hw] at this
    cases this
    exact ⟨B2, Fr.refl sH, (f z).m sB hf⟩
/-- lo, lo + 1, .. -/
def rg (lo n : Int) : List Int := (List.range (n - lo).toNat).map fun (i : Nat) => lo + (i : Int)
theorem rg_length (lo n : Int) : (rg lo n).length = (n - lo).toNat := by simp [rg]
theorem rg_get {lo n : Int} {i : Nat} {z : Int} (h : (rg lo n)[i]? = some z) : z = lo + i ∧ i < (n - lo).toNat := by
  unfold rg at h
  rw [List.getElem?_map] at h
  cases e : (List.range (n - lo).toNat)[i]? with
  | none =>
    rw [e] at h
    cases h
  | some j =>
    rw [e] at h
    obtain ⟨h1, h2⟩ := List.getElem?_eq_some_iff.mp e
    simp at h h1 h2
    subst h2
    exact ⟨h.symm, by omega⟩
theorem mem_rg {lo n x : Int} : x ∈ rg lo n ↔ lo ≤ x ∧ x < n := by
  unfold rg
  rw [List.mem_map]
  constructor
  · rintro ⟨i, hi, rfl⟩
    rw [List.mem_range] at hi
    omega
  · rintro ⟨h1, h2⟩
    exact ⟨(x - lo).toNat, by rw [List.mem_range]; omega, by omega⟩
theorem wlk_rg {lo n : Int} {B1 : Hp} : Wlk (Itr lo (n - lo).toNat) b B1 (rg lo n) I := by
  refine ⟨fun i H2 hi s _ => ?_, fun H2 s _ => ?_, fun i z H2 x H3 hz s _ yl B2 sB sH => ?_⟩
  · rw [rg_length] at hi
    exact hi
  · rw [rg_length]
    exact Nat.le_refl _
  · obtain ⟨rfl, rfl⟩ := yl
    exact ⟨B2, Fr.refl sH, by rw [(rg_get hz).1]; rfl⟩
theorem src_rng1 {ta : TA} {n : Int} (h : EvA b ta G O [I n] O1) (h1 : -(2 ^ 62) ≤ n) (h2 : n < 2 ^ 62) : Src b (iRng1 ta) G O (rg 0 n) I O1 := fun σ B H S Q k => h σ B H S _ fun vs B1 H1 s1 S1 hv => by
  obtain ⟨v, rfl, rfl⟩ := pps1 hv
  refine ⟨n, rfl, h1, h2, ?_⟩
  have := k _ B1 H1 s1 S1 (wlk_rg (lo := 0) (n := n))
  rw [Int.sub_zero] at this
  exact this
theorem src_rng2 {ta : TA} {lo n : Int} (h : EvA b ta G O [I lo, I n] O1) (h0 : -(2 ^ 62) ≤ lo) (h0' : lo < 2 ^ 62) (h1 : -(2 ^ 62) ≤ n) (h2 : n < 2 ^ 62) : Src b (iRng2 ta) G O (rg lo n) I O1 := fun σ B H S Q k => h σ B H S _ fun vs B1 H1 s1 S1 hv => by
  obtain ⟨v, w, rfl, rfl, rfl⟩ := pps2 hv
  exact ⟨lo, n, rfl, ⟨h0, h0', h1, h2⟩, k _ B1 H1 s1 S1 wlk_rg⟩
/-- the items with their places, from lo on -/
def en (lo : Int) : List α → List (Int × α)
  | [] => []
  | x :: xs => (lo, x) :: en (lo + 1) xs
theorem en_length : ∀ (lo : Int) (xs : List α), (en lo xs).length = xs.length
  | _, [] => rfl
  | lo, x :: xs => by simp [en, en_length (lo + 1) xs]
theorem en_get : ∀ {lo : Int} {xs : List α} {i : Nat} {z : Int × α}, (en lo xs)[i]? = some z → z.1 = lo + i ∧ xs[i]? = some z.2
  | _, [], i, z, h => by simp [en] at h
  | lo, x :: xs, 0, z, h => by
    simp [en] at h
    subst h
    simp
  | lo, x :: xs, i + 1, z, h => by
    have ih := en_get (lo := lo + 1) (xs := xs) (i := i) (z := z) (by simpa [en] using h)
    refine ⟨?_, by simpa using ih.2⟩
    rw [ih.1]
    omega
abbrev En (f : α → HP) : Int × α → HP := fun z => Tp [I z.1, f z.2]
theorem wlk_pair {J : It} {B1 : Hp} {zs : List ζ} {y : ζ → HP} {y1 y2 : ζ → HP} (hy : ∀ z, y z = Tp [y1 z, y2 z]) (hg : ∀ i H, i < zs.length → Same B1 H → Same b.H0 H → J.go i H) (hs : ∀ H, Same B1 H → Same b.H0 H → J.stop zs.length H)
    (hx : ∀ i z H x H', zs[i]? = some z → Same B1 H → Same b.H0 H → J.yld i H x H' → ∃ t v w, x = .ref t ∧ H t = none ∧ H' = upd H t (.tup [v, w]) ∧ (y1 z).p B1 v ∧ (y2 z).p B1 w) : Wlk J b B1 zs y :=
  ⟨hg, hs, fun i z H2 x H3 hz s s' yl B2 sB sH => by
    obtain ⟨t, v, w, rfl, ht, rfl, h1, h2⟩ := hx i z H2 x H3 hz s s' yl
    have f1 := Fr.new (o := .tup [v, w]) sH ht
    refine ⟨_, f1, ?_⟩
    rw [hy]
    exact ⟨t, _, rfl, upd_same, _, rfl, .cons ((y1 z).m (sB.trans f1.bb) h1) (.cons ((y2 z).m (sB.trans f1.bb) h2) .nil)⟩⟩
theorem src_enum {ta : TA} (h : EvA b ta G O [L f xs] O1) : Src b (iEnum K ta) G O (en 0 xs) (En f) O1 := fun σ B H S Q k => h σ B H S _ fun vs B1 H1 s1 S1 hv => by
  obtain ⟨v, rfl, a, u, rfl, ha, ws, rfl, hp⟩ := pps1 hv
  refine ⟨a, ws, rfl, SqL.of (S1.bh a _ ha), k _ B1 H1 s1 S1 (wlk_pair (fun z => rfl) (fun i H2 hi s _ => ?_) (fun H2 s _ => ?_) fun i z H2 x H3 hz s _ yl => ?_)⟩
  · rw [en_length] at hi
    exact ⟨ws, ws[i]'(by rw [← hp.length]; exact hi), SqL.of (s a _ ha), by simp [← hp.length, hi]⟩
  · exact ⟨ws, SqL.of (s a _ ha), by rw [en_length, hp.length]; exact Nat.le_refl _⟩
  · obtain ⟨t, w, rfl, ht, rfl, hw⟩ := yl
    obtain ⟨e1, e2⟩ := en_get hz
    obtain ⟨w', hw', hf⟩ := paired_get hp e2
    have := hw ws (SqL.of (s a _ ha))
    rw [hw'] at this
    cases this
    exact ⟨t, _, _, rfl, ht, rfl, by rw [e1, Int.zero_add]; rfl, hf⟩
theorem src_zip {β : Type} {g : β → HP} {ys : List β} {ta : TA} (h : EvA b ta G O [L f xs, L g ys] O1) : Src b (iZip K ta) G O (xs.zip ys) (fun z => Tp [f z.1, g z.2]) O1 := fun σ B H S Q k => h σ B H S _ fun vs B1 H1 s1 S1 hv => by
  obtain ⟨v, w, rfl, ⟨a, u, rfl, ha, ws, rfl, hp⟩, ⟨c, u', rfl, hc, us, rfl, hq⟩⟩ := pps2 hv
  refine ⟨a, c, ws, us, rfl, SqL.of (S1.bh a _ ha), SqL.of (S1.bh c _ hc), k _ B1 H1 s1 S1 (wlk_pair (fun z => rfl) (fun i H2 hi s _ => ?_) (fun H2 s _ => ?_) fun i z H2 x H3 hz s _ yl => ?_)⟩
  · rw [List.length_zip] at hi
    have h1 : i < ws.length := by rw [← hp.length]; omega
    have h2 : i < us.length := by rw [← hq.length]; omega
    exact ⟨ws, us, ws[i], us[i], SqL.of (s a _ ha), SqL.of (s c _ hc), by simp [h1], by simp [h2]⟩
  · refine ⟨ws, us, SqL.of (s a _ ha), SqL.of (s c _ hc), ?_⟩
    rw [List.length_zip, ← hp.length, ← hq.length]
    omega
  · obtain ⟨t, x1, x2, rfl, ht, rfl, hx1, hx2⟩ := yl
    obtain ⟨e1, e2⟩ := List.getElem?_zip_eq_some.mp hz
    obtain ⟨w1, hw1, hf1⟩ := paired_get hp e1
    obtain ⟨w2, hw2, hf2⟩ := paired_get hq e2
    have q1 := hx1 ws (SqL.of (s a _ ha))
    have q2 := hx2 us (SqL.of (s c _ hc))
    rw [hw1] at q1
    rw [hw2] at q2
    cases q1
    cases q2
    exact ⟨t, _, _, rfl, ht, rfl, hf1, hf2⟩
/-! ### comprehensions -/
def wipeG (G : List (Option HP)) : List Nat → List (Option HP)
  | [] => G
  | v :: vs => (wipeG G vs).set v none
theorem Sta.forget {σ : L2.St} {B H : Hp} {i : Nat} (S : Sta b G O σ B H) : Sta b (G.set i none) O (σ.set i none) B H := by
  refine ⟨by simp [S.len], S.bb, S.bh, S.hh, S.fz, fun j Q e => ?_, S.ow, S.nd⟩
  by_cases hj : i = j
  · subst hj
    rw [List.getElem?_set] at e
    simp at e
  · rw [List.getElem?_set_ne hj] at e
    rw [List.getElem?_set_ne hj]
    exact S.sl j Q e
theorem Sta.wipe {σ : L2.St} {B H : Hp} (S : Sta b G O σ B H) : ∀ (vs : List Nat), Sta b (wipeG G vs) O (L2.wipe σ vs) B H
  | [] => S
  | v :: vs => (S.wipe vs).forget
/-- the slots known otherwise -/
theorem Sta.slots {σ σ' : L2.St} {B H B' H' : Hp} (S : Sta b G O σ B H) (s : Same B B') (S' : Sta b G' O' σ' B' H') : Sta b G O' σ B' H' :=
  ⟨S.len, S'.bb, S'.bh, S'.hh, S'.fz, fun i P e => by obtain ⟨v, h1, h2⟩ := S.sl i P e; exact ⟨v, h1, P.m s h2⟩, S'.ow, S'.nd⟩
theorem ev_lc {wi : TI} {g : TG} {zs : List ζ} {y : ζ → HP} {vs : List Nat} (f : α → HP) (c : ζ → Bool) (v : ζ → α) (Gt : ζ → List (Option HP)) (hs : Src b wi G O zs y O1) (ht : ∀ z ∈ zs, Tg g (y z) (wipeG G vs) (Gt z) vs)
    (hc : ∀ z ∈ zs, ∀ O, EvT b tt (Gt z) O (c z) O) (he : ∀ z ∈ zs, c z = true → ∀ O, Ev b te (Gt z) O (f (v z)) O) (hl : zs.length < 100000) : Ev b (tLc wi g tt te vs) G O (L f ((zs.filter c).map v)) O1 := fun σ B H S Q k =>
  hs σ B H S _ fun J B1 H1 s1 S1 W Dl hD => by
  have S0 : Sta b G O1 σ B1 H1 := S1
  have St := (S1.own (o := oL f ([] : List α)) hD ⟨[], rfl, .nil⟩).wipe vs
  refine ⟨fun i m H' => m = zs.length - i ∧ i ≤ zs.length ∧ ∃ B', Same B1 B' ∧ Sta b (wipeG G vs) ((Dl, oL f (((zs.take i).filter c).map v)) :: O1) (L2.wipe σ vs) B' H', ⟨_, rfl, Nat.zero_le _, B1, Same.refl _, St⟩, ?_⟩
  rintro i m H' ⟨rfl, hi, B', sB, S'⟩
  by_cases hlt : i < zs.length
  · refine .inr ⟨W.go i H' hlt (sB.trans S'.bh) S'.hh, fun H2 => ∃ B2, Same B1 B2 ∧ Sta b (wipeG G vs) ((Dl, oL f (((zs.take (i + 1)).filter c).map v)) :: O1) (L2.wipe σ vs) B2 H2, fun H2 p2 => ⟨zs.length - (i + 1), by omega, rfl, hlt, p2⟩, fun x H2 yl => ?_⟩
    have hz : zs[i]? = some zs[i] := by simp [hlt]
    have hm : zs[i] ∈ zs := List.getElem_mem hlt
    have et := take_succ_filter c zs i zs[i] hz
    obtain ⟨B2, fr, hx⟩ := W.yld i _ H' x H2 hz (sB.trans S'.bh) S'.hh yl B' sB S'.bh
    have S2 := S'.step fr
    refine ht _ hm b _ _ B2 H2 x S2 hx _ fun σ3 w3 S3 => ⟨by rw [w3]; exact wipe_wipe vs vs (fun _ h => h), hc _ hm _ σ3 B2 H2 S3 _ fun B4 H4 s4 S4 => ?_⟩
    have s24 : Same B1 B4 := (sB.trans fr.bb).trans s4
    cases e : c zs[i] with
    | false =>
      refine iteF ⟨B4, s24, ?_⟩
      rw [et, e]
      simp only [Bool.false_eq_true, if_false, List.append_nil]
      exact S'.slots (fr.bb.trans s4) S4
    | true =>
      refine iteT (he _ hm e _ σ3 B4 H4 S4 _ fun w B5 H5 s5 S5 hw => ?_)
      obtain ⟨_, h2, u, hu, ws, rfl, hp⟩ := S5.ow _ (List.mem_cons_self ..)
      refine ⟨ws, hu, ?_, B5, s24.trans s5, ?_⟩
      · rw [← hp.length, List.length_map]
        have h1 := List.length_filter_le c (zs.take i)
        have h2 : (zs.take i).length ≤ zs.length := by rw [List.length_take]; omega
        exact sz_lt' (by omega)
      · rw [et, e]
        simp only [if_true, List.map_append, List.map_cons, List.map_nil]
        exact (S'.slots ((fr.bb.trans s4).trans s5) S5).put ⟨_, rfl, hp.snoc hw⟩
  · have e : i = zs.length := by omega
    subst e
    refine .inl ⟨W.stop H' (sB.trans S'.bh) S'.hh, ?_⟩
    rw [List.take_length] at S'
    obtain ⟨B2, S2, hq, s2⟩ := S'.free
    exact k _ B2 H' ((s1.trans sB).trans s2) (S0.slots (sB.trans s2) S2) hq
/-- {k: v for ..}, its keys unlike; the new dict owned -/
theorem dp_new {kvs : List (Int × α)} {k : Int} {x : α} (h : k ∉ kvs.map (·.1)) : dp kvs k x = kvs ++ [(k, x)] := by
  have : (dl kvs k).isSome = false := by
    unfold dl
    cases e : kvs.find? fun kv => decide (kv.1 = k) with
    | none => rfl
    | some p =>
      have h1 := List.find?_some e
      have h2 := List.mem_of_find?_eq_some e
      exact absurd (List.mem_map.mpr ⟨p, h2, of_decide_eq_true h1⟩) h
  unfold dp
  rw [this]
  simp
theorem evx_dc {wi : TI} {g : TG} {zs : List ζ} {y : ζ → HP} {vs : List Nat} {tk tv : TE} (f : α → HP) (c : ζ → Bool) (q : ζ → Int) (v : ζ → α) (Gt : ζ → List (Option HP)) (hs : Src b wi G O zs y O1) (ht : ∀ z ∈ zs, Tg g (y z) (wipeG G vs) (Gt z) vs)
    (hc : ∀ z ∈ zs, ∀ O, EvT b tt (Gt z) O (c z) O) (hk : ∀ z ∈ zs, c z = true → ∀ O, Ev b tk (Gt z) O (I (q z)) O) (he : ∀ z ∈ zs, c z = true → ∀ O, Ev b tv (Gt z) O (f (v z)) O) (hl : zs.length < 100000) (hn : (zs.map q).Nodup) :
    EvX b (tDc wi g tt tk tv vs) G O At (fun d => (d, oD f ((zs.filter c).map fun z => (q z, v z))) :: O1) := fun σ B H S Q k =>
  hs σ B H S _ fun J B1 H1 s1 S1 W Dl hD => by
  have S0 : Sta b G O1 σ B1 H1 := S1
  have St := (S1.own (o := oD f ([] : List (Int × α))) hD ⟨[], rfl, .nil⟩).wipe vs
  refine ⟨fun i m H' => m = zs.length - i ∧ i ≤ zs.length ∧ ∃ B', Same B1 B' ∧ Sta b (wipeG G vs) ((Dl, oD f (((zs.take i).filter c).map fun z => (q z, v z))) :: O1) (L2.wipe σ vs) B' H', ⟨_, rfl, Nat.zero_le _, B1, Same.refl _, St⟩, ?_⟩
  rintro i m H' ⟨rfl, hi, B', sB, S'⟩
  by_cases hlt : i < zs.length
  · refine .inr ⟨W.go i H' hlt (sB.trans S'.bh) S'.hh, fun H2 => ∃ B2, Same B1 B2 ∧ Sta b (wipeG G vs) ((Dl, oD f (((zs.take (i + 1)).filter c).map fun z => (q z, v z))) :: O1) (L2.wipe σ vs) B2 H2, fun H2 p2 => ⟨zs.length - (i + 1), by omega, rfl, hlt, p2⟩, fun x H2 yl => ?_⟩
    have hz : zs[i]? = some zs[i] := by simp [hlt]
    have hm : zs[i] ∈ zs := List.getElem_mem hlt
    have et := take_succ_filter c zs i zs[i] hz
    obtain ⟨B2, fr, hx⟩ := W.yld i _ H' x H2 hz (sB.trans S'.bh) S'.hh yl B' sB S'.bh
    have S2 := S'.step fr
    refine ht _ hm b _ _ B2 H2 x S2 hx _ fun σ3 w3 S3 => ⟨by rw [w3]; exact wipe_wipe vs vs (fun _ h => h), hc _ hm _ σ3 B2 H2 S3 _ fun B4 H4 s4 S4 => ?_⟩
    have s24 : Same B1 B4 := (sB.trans fr.bb).trans s4
    cases e : c zs[i] with
    | false =>
      refine iteF ⟨B4, s24, ?_⟩
      rw [et, e]
      simp only [Bool.false_eq_true, if_false, List.append_nil]
      exact S'.slots (fr.bb.trans s4) S4
    | true =>
      refine iteT (hk _ hm e _ σ3 B4 H4 S4 _ fun w B5 H5 s5 S5 hw => he _ hm e _ σ3 B5 H5 S5 _ fun w2 B6 H6 s6 S6 hw2 => ?_)
      cases (show w = .int _ from hw)
      obtain ⟨_, h2, u, hu, ws, rfl, hp⟩ := S6.ow _ (List.mem_cons_self ..)
      refine ⟨ws, Sum.inl (q zs[i]), rfl, hu, ?_, B6, (s24.trans s5).trans s6, ?_⟩
      · rw [← hp.length, List.length_map]
        have h1 := List.length_filter_le c (zs.take i)
        have h2 : (zs.take i).length ≤ zs.length := by rw [List.length_take]; omega
        exact sz_lt' (by omega)
      · have hnew : q zs[i] ∉ (((zs.take i).filter c).map fun z => (q z, v z)).map (·.1) := by
          intro hmm
          rw [List.map_map] at hmm
          obtain ⟨z, hz1, hz2⟩ := List.mem_map.mp hmm
          have hz3 := (List.mem_filter.mp hz1).1
          obtain ⟨j, hj⟩ := List.mem_iff_getElem?.mp hz3
          rw [List.getElem?_take] at hj
          by_cases hji : j < i
          · rw [if_pos hji] at hj
            obtain ⟨hjl, ej⟩ := List.getElem?_eq_some_iff.mp hj
            have := List.pairwise_iff_getElem.mp hn j i (by simpa using hjl) (by simpa using hlt) hji
            apply this
            rw [List.getElem_map, List.getElem_map, ej]
            exact hz2
          · rw [if_neg hji] at hj
            cases hj
        have hput := dp_put (k := q zs[i]) (x := v zs[i]) hw2 hp
        rw [dp_new hnew] at hput
        rw [et, e]
        simp only [if_true, List.map_append, List.map_cons, List.map_nil]
        exact (S'.slots (((fr.bb.trans s4).trans s5).trans s6) S6).put ⟨_, rfl, hput⟩
  · have e : i = zs.length := by omega
    subst e
    refine .inl ⟨W.stop H' (sB.trans S'.bh) S'.hh, ?_⟩
    rw [List.take_length] at S'
    exact k Dl _ B' H' (s1.trans sB) (S0.slots sB S') rfl
end
end Rb

set_option Elab.async false
set_option linter.all false
set_option maxRecDepth 100000
set_option maxHeartbeats 4000000
namespace Rb
open PySem PySem.Spec PyProof.Rows L2 PpSet
section
variable {X : Cx}
/-! ### len of an own instance -/
/-- len(o), o.__len__ a def of the program -/
def rLenI (C : Addr) (sp : Sp) : List V → Hp → VK → Prop := fun xs H Q => ∃ a dx fs, xs = [V.ref a] ∧ H a = some (.ins C dx fs) ∧ sp [V.ref a] H (fun v H' => ∃ n : Int, v = .int n ∧ 0 ≤ n ∧ n < 2 ^ 63 ∧ Q (.int n) H') E0
theorem call_lenI {C f : Addr} {fd : FuncData} {k : Nat} {ps : List Str} {sp : Sp} (m : Meth X.K C "__len__" f) (F : FnOk X.prog X.w X.K X.mg X.base CX0 k f fd ps sp) (hr : Room (k + 1) X.A) (hb : Binds X.K fd ps []) : CallR X (.builtin "len") (rLenI C sp) := by
  intro pins s σ H xs us Q I r ⟨a, dx, fs, ex, ea, q⟩
  subst ex
  obtain ⟨u, eu, rx⟩ := vals1 r
  subst eu
  cases rx
  obtain ⟨mA, O, _⟩ := ins_get I.hok ea
  obtain ⟨od, J, _⟩ := O.look
  obtain ⟨mm, hF⟩ := I.fr
  have hl : ([Value.ref a] ++ ([] : List Value)).length = ps.length := by
    rw [← F.len _ _ _ _ q]
    rfl
  refine PySem.W.len_K hF I.mod.kin J m.at_ m.fn (wpAny_call (codeAny_mono (F.run X.A.in1 X.stack s H ⟨[Value.ref a], []⟩ ([Value.ref a] ++ []) [V.ref a] _ E0 hr.in1 I.env0.in1 (hb s [Value.ref a] I.kIn hl) (show Vals [V.ref a] [Value.ref a] from .cons rfl .nil) q) fun rs t hq => ?_))
  cases rs with
  | error e => exact hq.elim
  | ok fl =>
    cases fl with
    | ret w =>
      obtain ⟨v, H', I', rv, n, ev, h0, h1, q'⟩ := I.after hq
      subst ev
      obtain ⟨tk, ew⟩ := rv
      subst ew
      exact ⟨⟨h0, h1⟩, .int n, H', I'.tok _, ⟨_, rfl⟩, q'⟩
    | next => exact hq.elim
    | brk => exact hq.elim
    | cont => exact hq.elim
/-! ### enumerate(xs, k) -/
/-- the list at a, each item in a new pair with its place from k on -/
def Itek (K : PySem.W.Frag) (k : Int) (a : Addr) : It :=
  ⟨fun j H => ∃ (ys : List V) (y : V), SqL K H a ys ∧ ys[j]? = some y,
   fun j H v H' => ∃ t y, v = .ref t ∧ H t = none ∧ H' = upd H t (.tup [.int (k + (j : Nat)), y]) ∧ ∀ ys, SqL K H a ys → ys[j]? = some y,
   fun j H => ∃ ys : List V, SqL K H a ys ∧ ys.length = j⟩
theorem turn_enumk {P : Program} {w : World} {K : PySem.W.Frag} {elts : List Expr} {kk : Nat} {tpos : Pos} (k : Int) (a c d : Addr) :
    Turn P w K (.Tuple elts kk tpos) (Itek K k a) [c, d] c (fun j g => (∃ o, IsEnum g c d (k + (j : Nat)) o) ∧ g.IsListIter d a j ∧ c ≠ d) where
  mem := List.mem_cons_self ..
  obj := fun j g z b hb => by
    obtain ⟨⟨o1, z1⟩, ⟨o2, z2, z3, z4⟩, _⟩ := z
    rcases (show b = c ∨ b = d by simpa using hb) with e | e
    · subst e
      exact ⟨_, z1, fun v q => nomatch q⟩
    · subst e
      exact ⟨o2, z2, fun v q => by rw [z4] at q; cases q⟩
  keep := fun j g g' z kp => by
    obtain ⟨⟨o1, z1⟩, z2, z3⟩ := z
    exact ⟨⟨o1, kp c (by simp) _ z1⟩, z2.at fun o q => kp d (by simp) o q, z3⟩
  item := by
    intro X hP hw hK hc j pins s σ H E I hf z hg
    subst hP
    subst hw
    subst hK
    obtain ⟨⟨o1, z1⟩, z2, z3⟩ := z
    obtain ⟨ys, y, hq, hy⟩ := hg
    obtain ⟨us, rv, pl, _⟩ := I.list hq
    obtain ⟨u, hu, ru⟩ := rv.get hy
    have lc : c < s.heap.objs.size := Heap.lt_size z1
    have ld : d < s.heap.objs.size := by
      obtain ⟨_, q, _⟩ := z2
      exact Heap.lt_size q
    have ha : a ≠ d := fun e => by
      obtain ⟨o2, z4, z5, z6⟩ := z2
      obtain ⟨o3, _, z7, z8, _⟩ := pl
      rw [e, z4] at z7
      cases z7
      rw [z5] at z8
      exact absurd (Value.type.inj z8) (by decide)
    have ds := Draws.list (prog := X.prog) (w := X.w) (A := X.A.in1) (I.ok.hd hc) d a ha us.toArray
    have hac : c ∉ [d, a] := fun e => by
      rcases (show c = d ∨ c = a by simpa using e) with e | e
      · exact z3 e
      · obtain ⟨o3, _, z7, z8, _⟩ := pl
        rw [← e] at z7
        have q := z7.symm.trans (show s.heap.get? c = some _ from z1)
        cases q
        exact absurd (Value.type.inj z8) (by decide)
    refine wpAny_pyNext_enum_itemC ds z1 ⟨z2, pl.isList⟩ (show j < us.toArray.size by have := (List.getElem?_eq_some_iff.mp hu).1; simpa using this) z3 hac fun x g1 tk hx e1 st1 t1 n1 k1 => ?_
    have ex : x = u := by
      have : us.toArray[j]? = some x := hx
      rw [show us.toArray[j]? = some u by simpa using hu] at this
      exact (Option.some.inj this).symm
    subst ex
    obtain ⟨i1, _⟩ := st1
    refine ⟨_, rfl, wpAny_letOwnedTupleGo_enum (s := { s with heap := g1, toks := tk + 1 }) e1 fun g2 e2 b2 => ?_⟩
    have t2 : g2.get? s.heap.objs.size = some { cls := .type "tuple", data := .seq #[.int (k + (j : Nat)) tk, x] } := (b2.2 _ (Nat.ne_of_gt lc)).trans t1
    have nw : ObjOk X.prog X.w (upd H s.heap.objs.size (.tup [.int (k + (j : Nat)), y])) g2 s.heap.objs.size (.tup [.int (k + (j : Nat)), y]) :=
      ⟨by show 2 ≤ sizeLine; decide, [.int (k + (j : Nat)) tk, x], .cons ⟨_, rfl⟩ (.cons ru .nil), ⟨_, t2, rfl, _, rfl⟩⟩
    have I1 := I.turnedNew (t' := tk + 1) (ch := [c, d]) (fun b ob hb q => (b2.2 b (fun e => hb (by simp [e]))).trans (k1 b ob (fun e => hb (by simp [e])) (fun e => hb (by simp [e])) q)) hf (Nat.le_refl _) nw
    refine ⟨.ref s.heap.objs.size, _, I1, rfl, ⟨_, y, rfl, I.hok.fresh (Nat.le_refl _), rfl, fun zs hz => by rw [I.list_inj hz hq]; exact hy⟩, ⟨⟨x, ?_⟩, i1.at fun o q => (b2.2 d (Ne.symm z3)).trans q, z3⟩, fun b hb => ?_⟩
    · have e3 : k + ((j + 1 : Nat) : Int) = k + (j : Nat) + 1 := by omega
      rw [e3]
      exact e2
    · have lb : b < s.heap.objs.size := by
        rcases (show b = c ∨ b = d by simpa using hb) with e | e
        · rw [e]
          exact lc
        · rw [e]
          exact ld
      rw [upd_ne (Nat.ne_of_lt lb)]
      exact (hf b hb).1
  done := by
    intro X hP hw hK hc j pins s σ H E I hf z hg
    subst hP
    subst hw
    subst hK
    obtain ⟨⟨o1, z1⟩, z2, z3⟩ := z
    obtain ⟨ys, hq, hy⟩ := hg
    obtain ⟨us, rv, pl, _⟩ := I.list hq
    obtain ⟨f0, f1, f2, f3, f4, f5⟩ := hf d (by simp)
    have hl : us.toArray.size = j := by
      rw [List.size_toArray, ← rv.length]
      exact hy
    have ha : a ≠ d := fun e => by
      obtain ⟨o2, z4, z5, z6⟩ := z2
      obtain ⟨o3, _, z7, z8, _⟩ := pl
      rw [e, z4] at z7
      cases z7
      rw [z5] at z8
      exact absurd (Value.type.inj z8) (by decide)
    have ds := Draws.list (prog := X.prog) (w := X.w) (A := X.A.in1) (I.ok.hd hc) d a ha us.toArray
    refine wpAny_pyNext_enum_endD ds z1 ⟨by rw [hl]; exact z2, pl.isList⟩ fun g e => ?_
    exact ⟨rfl, I.turned (t' := s.toks) (fun b o hb q => e b o hb q) f0 f1 f3 f4 f5⟩
  self := fun A j s Q E z h => by
    obtain ⟨⟨o1, z1⟩, _⟩ := z
    exact wpAny_pyIter_enum z1 h
def iEnumk (K : PySem.W.Frag) (ta : TA) : TI := fun σ H R => ta σ H fun vs H1 => ∃ a ys k, vs = [.ref a, .int k] ∧ SqL K H1 a ys ∧ -(2 ^ 63) ≤ k ∧ k < 2 ^ 63 ∧ R (Itek K k a) H1
theorem pi_enumk {e e2 : Expr} {ta : TA} {p pos tpos : Pos} {elts : List Expr} {kk : Nat} (hg : Gl X "enumerate") (hm : X.mg "enumerate" = none) (ha : PA X [e, e2] ta)
    (hs : starEach [e, e2] X.env = (false, eval e X.env) :: starEach [e2] X.env := by rfl) (hpl : (backTo pos (starEach [e2] X.env)).any (·.1) = false := by rfl) :
    PI X (.Tuple elts kk tpos) (.Call (.Name "enumerate" p) [e, e2] [] pos) (iEnumk X.K ta) := by
  refine ⟨fun pins s σ H R I h => ?_⟩
  refine Call_ (ld_blt I hg hm boot_enumerate (PyProof.Rows.callWith_type1 (thn (ha.run pos pins s σ H _ I h) fun us s1 q => ?_) hs hpl))
  obtain ⟨vs, H1, I1, r1, a, ys, k, ev, hq, k0, k1, q1⟩ := q
  subst ev
  obtain ⟨u1, u2, eu, r2, r3⟩ := vals2 r1
  subst eu
  cases r2
  obtain ⟨tk, e3⟩ := r3
  subst e3
  obtain ⟨its, rv, pl, hz⟩ := I1.list hq
  refine enum_begins (begins_list a its.toArray) pl.isList k0 k1 fun g he hit hsz hk => ?_
  refine wpAny_pyIter_enum he ?_
  have I2 : Inv X pins σ H1 { s1 with heap := g } := I1.kept (t' := s1.toks) hk
  refine ⟨s1.heap.objs.size + 1, [s1.heap.objs.size + 1, s1.heap.objs.size], _, _, H1, rfl, I2, turn_enumk k a (s1.heap.objs.size + 1) s1.heap.objs.size, ⟨⟨.none, by rw [show k + ((0 : Nat) : Int) = k by omega]; exact he⟩, ?_, Nat.succ_ne_self _⟩, fun b hb => ?_, q1⟩
  · exact ⟨_, hit, rfl, rfl⟩
  · have hle : s1.heap.objs.size ≤ b := by
      rcases (show b = s1.heap.objs.size + 1 ∨ b = s1.heap.objs.size by simpa using hb) with z | z
      · rw [z]
        exact Nat.le_add_right _ _
      · rw [z]
        exact Nat.le_refl _
    exact I1.fpOk hle (I1.hok.fresh hle)
/-! ### a, *c = a list -/
theorem star_items {prog : Program} {w : World} {A : Around} {E : Value → Shared → Prop} {s : Shared} {l : Addr} {u : Value} {us : List Value} {Q : List Value → Shared → Prop} (hh : A.handled = none) (hl : s.heap.IsList l (u :: us).toArray) (hz : us.length ≤ 16000)
    (h : ∀ (g : Heap) (tk : Nat), (∀ b o, s.heap.get? b = some o → g.get? b = some o) → Q [u, .ref g.objs.size] { s with heap := g.push { cls := .type "list", data := .seq us.toArray }, toks := tk }) : wpAny (model prog w) A (unpackItems (.ref l) 2 (some 1)) Q E s := by
  have lt : l < s.heap.objs.size := by
    obtain ⟨o, ho, _⟩ := hl
    exact Heap.lt_size ho
  have ne : l ≠ s.heap.objs.size := Nat.ne_of_lt lt
  unfold unpackItems
  refine wpAny_bind ?_
  unfold notIterableAtAll
  refine wpAny_bind (wpAny_specialOf hl.typeIs slot_list_iter.lookup ?_)
  refine wpAny_pure ?_
  simp only [Bool.false_eq_true, if_false]
  refine wpAny_bind (wpAny_holding (wpAny_pyIter_list hl ?_))
  refine wpAny_bind (wpAny_holding (PySem.W.kun_draw ne 1 0 _ _ ⟨_, Heap.get?_push_size _ rfl, rfl, rfl⟩ (hl.push _) (by simp) fun g1 it1 b1 => ?_))
  have hl1 : g1.IsList l (u :: us).toArray := (hl.push _).extBut b1.extBut ne
  have it1 : g1.IsListIter s.heap.objs.size l 1 := it1
  obtain ⟨oi, hoi, _⟩ := id it1
  obtain ⟨ol, hol, _⟩ := id hl1
  show wpAny _ _ (if [u].length < 1 then _ else _) _ _ _
  rw [if_neg (by simp)]
  refine wpAny_bind (wpAny_holding (PySem.W.kun_collect (s := { s with heap := g1 }) (T := "list_iterator") (.inr (.inr (.inl rfl))) (Walks.list (A := A.in1) hh s.heap.objs.size l ne (u :: us).toArray) (fun j v z => z.1.typeIs) (k := 1) (by simp) ⟨it1, hl1⟩ (Heap.lt_size hoi) (Heap.lt_size hol) (fun g2 tk k2 => ?_) (by rw [sizeLine_eq]; simp; omega)))
  have e1 : (u :: us).toArray.toList.drop 1 = us := rfl
  rw [e1]
  show wpAny _ _ (if us.length < 0 then _ else _) _ _ _
  rw [if_neg (by omega)]
  show wpAny _ _ (newList (us.take (us.length - 0)) >>= fun d => pure ([u] ++ [d] ++ us.drop (us.length - 0))) _ _ _
  rw [Nat.sub_zero, List.take_length, List.drop_length]
  have kk : ∀ b o, s.heap.get? b = some o → g2.get? b = some o := fun b o e => by
    have hb : b ≠ s.heap.objs.size := Nat.ne_of_lt (Heap.lt_size e)
    exact k2 b o hb (b1.extBut b o hb (Heap.get?_push_of_some _ e))
  refine wpAny_bind (wpAny_newObj_type ?_ (by show us.toArray.size ≤ sizeLine; rw [sizeLine_eq]; simp; omega))
  exact wpAny_pure (h g2 tk kk)
/-- the first item, then a new list of the others -/
def gStar (K : PySem.W.Frag) (t u : TG) : TG := fun v σ H Q => ∃ a x xs, v = .ref a ∧ SqL K H a (x :: xs) ∧ xs.length ≤ 16000 ∧ ∀ d, H d = none → t x σ (upd H d (.lst xs)) fun σ1 H1 => u (.ref d) σ1 H1 Q
theorem pg_star {e1 e2 : Expr} {k : Nat} {p2 pos : Pos} {t u : TG} (hc : X.calm = true) (h1 : PG X e1 t) (h2 : PG X e2 u)
    (hn : (assignEach [e1, .Starred e2 p2] X.env).length = 2 := by rfl) (hst : (assignEach [e1, .Starred e2 p2] X.env).findIdx? (·.1) = some 1 := by rfl)
    (ha : (assignEach [e1, .Starred e2 p2] X.env).map (·.2) = [assign e1 X.env, assign e2 X.env] := by rfl) : PG X (.Tuple [e1, .Starred e2 p2] k pos) (gStar X.K t u) := by
  refine ⟨fun pins s σ H v w Q I r hw => ?_⟩
  obtain ⟨a, x, xs, ev, hq, hl, q⟩ := hw
  subst ev
  cases r
  obtain ⟨its, rv, pl, hz⟩ := I.list hq
  cases rv with
  | cons rx rxs =>
    rename_i w1 ws
    obtain ⟨mm, hF⟩ := I.fr
    have hsz : xs.length = ws.length := rxs.length
    have nA : (w1 :: ws).toArray.size = ws.length + 1 := by simp
    rw [arm_assign_Tuple]
    refine wpAny_bind (wpAny_standAt ?_)
    unfold unpack
    rw [hn, hst, ha]
    refine wpAny_bind (wpAny_holding (star_items (I.ok.hd hc) pl.isList (by rw [← hsz]; exact hl) fun g tk hk => ?_))
    have I1 : Inv X pins σ H { s with heap := g, toks := tk } := I.kept (t' := tk) hk
    have I2 : Inv X pins σ (upd H g.objs.size (.lst xs)) { s with heap := g.push { cls := .type "list", data := .seq ws.toArray }, toks := tk } :=
      I1.laid (t' := tk) (fun b o e => Heap.get?_push_of_some _ e) (Nat.le_refl _) ⟨by rw [sizeLine_eq]; omega, ws, 0, rxs, Heap.get?_push_size _ rfl⟩
    refine assignInOrder_cons (thn (h1.run pins _ σ _ x w1 _ I2 rx (q g.objs.size (I1.hok.fresh (Nat.le_refl _)))) fun _ s3 q3 => ?_)
    obtain ⟨σ3, H3, I3, q4⟩ := q3
    exact assignInOrder_cons (thn (h2.run pins s3 σ3 H3 (.ref g.objs.size) (.ref g.objs.size) Q I3 rfl q4) fun _ s4 q5 => assignInOrder_nil q5)
/-! ### {e for x in xs}, e whole numbers -/
/-- c the new set; what is within by S, how many by n -/
def tSi (w : World) (wi : TI) (g : TG) (tt : TT) (te : TE) (vs : List Nat) : TE := fun σ H Q => wi σ H fun J H1 => ∀ c, H1 c = none → ∃ W : Nat → Nat → Hp → Prop, (∃ m, W 0 m (upd H1 c (SetO w c (fun _ => false) 0))) ∧
  ∀ i m H, W i m H → (J.stop i H ∧ Q (.ref c) H) ∨ (J.go i H ∧ ∃ N : Hp → Prop, (∀ H', N H' → ∃ m', m' < m ∧ W (i + 1) m' H') ∧ ∀ x H', J.yld i H x H' →
    g x (wipe σ vs) H' fun σ2 H2 => wipe σ2 vs = wipe σ vs ∧ tt σ2 H2 fun b H3 => if b = true then te σ2 H3 fun y H4 => ∃ (k : Int) (S : Int → Bool) (n : Nat), y = .int k ∧ H4 c = some (SetO w c S n) ∧ n + 1 < scanBound ∧
      N (upd H4 c (SetO w c (fun j => S j || decide (j = k)) (if S k = true then n else n + 1))) else N H3)
theorem si_core {pins : List (Addr × Obj)} {s : Shared} {σ : L2.St} {H : Hp} {Q : VK} {elt tg iter : Expr} {ifs : List Expr} {scope : Scope} {own : List (PySem.Str × Nat)} {pos pos' : Pos} {wi : TI} {g : TG} {tt : TT} {te : TE} {use : Option (Value → Sem Unit)} {Qf : Value → Shared → Prop}
    (hc : X.calm = true) (hN : X.N.Nodup) (I : L2.Inv X pins σ H s) (hi : PI X tg iter wi) (bo : BlkOk X.N X.env.scope scope own)
    (hg : ∀ (u : Shared) (K : Hp) (C : Addr) (cl : List (PySem.Str × Addr)) (fp : List Addr), PG (X.blk u K scope (compEnvC scope cl C X.env) fp) tg g)
    (ht : ∀ (u : Shared) (K : Hp) (C : Addr) (cl : List (PySem.Str × Addr)) (fp : List Addr), PTs (X.blk u K scope (compEnvC scope cl C X.env) fp) ifs tt)
    (he : ∀ (u : Shared) (K : Hp) (C : Addr) (cl : List (PySem.Str × Addr)) (fp : List Addr), PE (X.blk u K scope (compEnvC scope cl C X.env) fp) elt te)
    (hs : ∀ x, foldedSetIterable iter X.env x = pure x) (h : tSi X.w wi g tt te (own.map (·.2)) σ H Q)
    (fin : ∀ D C u m K, L2.Inv X pins σ K u → Q (.ref D) K → u.heap.Ns C m → FpOk X pins K C → compPost (model X.prog X.w) X.A X.xe use Qf (.ref D) C (.ok .next) u) :
    wpAny (model X.prog X.w) X.A (comprehension (.SetComp elt [⟨tg, iter, ifs, 0⟩] scope pos) scope X.env pos' (newSet (.type "set")) false (eval iter X.env) use) Qf X.xe s := by
  have fr : ∀ y ∈ scope.names, y.2 = .free → ∃ c, X.env.cells.lookup y.1 = some c := fun y hy e => (bo.free y hy e).elim (fun k => I.ok.has _ (.inl k)) fun k => I.ok.has _ (.inr k)
  have un : ∀ y ∈ scope.names, y.2 = .local → scope.names.lookup y.1 = some .local := fun y hy e => by rw [bo.uniq y hy, e]
  refine wpAny_comprehension_free (use := use) rfl hs (closure_ok fr) bo.kind un (thn (hi.run pins s σ H _ I h) fun xv u1 hx => thn hx fun iv u2 h2 => ?_)
  obtain ⟨it, fp, tn, J, K2, e, I2, T, z2, f2, q⟩ := h2
  subst e
  refine newSet_ok (newEnv_comp ?_)
  generalize hD : u2.heap.objs.size = D
  have nD : K2 D = none := I2.hok.fresh (Nat.le_of_eq hD)
  obtain ⟨W, ⟨m0, w0⟩, turn⟩ := q D nD
  generalize hu3 : ({ u2 with heap := u2.heap.push { cls := .type "set", dict := none, data := .set #[] 0 (.fresh 0 0 (!X.w.params.followText "set-order")) } } : Shared) = u3
  have g3 : u3.heap = u2.heap.push { cls := .type "set", dict := none, data := .set #[] 0 (.fresh 0 0 (!X.w.params.followText "set-order")) } := by rw [← hu3]
  have I3 : L2.Inv X pins σ (upd K2 D (SetO X.w D (fun _ => false) 0)) u3 := by
    subst hu3
    refine I2.laid (t' := u2.toks) (fun b o z => Heap.get?_push_of_some _ z) (Nat.le_of_eq hD) ?_
    subst hD
    exact setO_new (setR_fresh X.w)
  have lt : ∀ b ∈ fp, b < u2.heap.objs.size := fun b hb => (T.obj _ _ z2 b hb).elim fun o z => Heap.lt_size z.1
  have f3 : ∀ b ∈ fp, FpOk X pins (upd K2 D (SetO X.w D (fun _ => false) 0)) b ∧ b < u3.heap.objs.size := fun b hb => by
    have l := lt b hb
    constructor
    · refine ⟨?_, (f2 b hb).2⟩
      rw [upd_ne (by rw [← hD]; exact Nat.ne_of_lt l)]
      exact (f2 b hb).1
    · rw [g3, Heap.size_push]
      exact Nat.lt_succ_of_lt l
  have z3 : tn 0 u3.heap := T.keep _ _ _ z2 fun b _ o z => by
    rw [g3]
    exact Heap.get?_push_of_some _ z
  have I4 := block_start I3 bo hN f3
  have pg := hg u3 (upd K2 D (SetO X.w D (fun _ => false) 0)) u3.heap.objs.size (cellsFrom (u3.heap.objs.size + 1) scope.names (cloFrom X.env.cells scope.names [])) fp
  have pt := ht u3 (upd K2 D (SetO X.w D (fun _ => false) 0)) u3.heap.objs.size (cellsFrom (u3.heap.objs.size + 1) scope.names (cloFrom X.env.cells scope.names [])) fp
  have pe := he u3 (upd K2 D (SetO X.w D (fun _ => false) 0)) u3.heap.objs.size (cellsFrom (u3.heap.objs.size + 1) scope.names (cloFrom X.env.cells scope.names [])) fp
  show codeAny _ _ (.compStart (.SetComp elt [⟨tg, iter, ifs, 0⟩] scope pos) 0 (.ref it) (.ref D) (compEnvC scope (cellsFrom (u3.heap.objs.size + 1) scope.names (cloFrom X.env.cells scope.names [])) u3.heap.objs.size X.env)) (compPost (model X.prog X.w) X.A X.xe use Qf (.ref D) u3.heap.objs.size) { u3 with heap := pushCells (u3.heap.push { cls := .type "dict", data := .dict #[] }) scope.names }
  have n3 : ∀ b ∈ fp, (upd K2 D (SetO X.w D (fun _ => false) 0)) b = none := fun b hb => (f3 b hb).1.1
  generalize hce : compEnvC scope (cellsFrom (u3.heap.objs.size + 1) scope.names (cloFrom X.env.cells scope.names [])) u3.heap.objs.size X.env = ce at I4 pg pt pe ⊢
  have cL : ce.locals = u3.heap.objs.size := by
    subst hce
    rfl
  generalize hK3 : upd K2 D (SetO X.w D (fun _ => false) 0) = K3 at I3 I4 pg pt pe w0 n3 f3
  generalize hu4 : ({ u3 with heap := pushCells (u3.heap.push { cls := .type "dict", data := .dict #[] }) scope.names } : Shared) = u4 at I4 ⊢
  have z4 : tn 0 u4.heap := T.keep _ _ _ z3 fun b _ o z => by
    rw [← hu4]
    exact pushCells_keeps _ _ _ _ (Heap.get?_push_of_some _ z)
  have fpk : ∀ {τ : L2.St} {M : Hp} {t : Shared}, L2.Inv (X.blk u3 K3 scope ce fp) [] τ M t → (∀ b ∈ fp, M b = none) → ∀ b ∈ fp, FpOk (X.blk u3 K3 scope ce fp) [] M b := fun {τ M t} Z hn b hb => by
    refine ⟨hn b hb, (Z.ok.exf b hb).1, Z.ok.exfs b hb, .inl hb, fun x c e => (Z.ok.exf b hb).2 x c e, fun p hp => ?_⟩
    exact absurd (show p ∈ ([] : List (Addr × Obj)) ++ [] from hp) (by simp)
  have loop : codeAny (model X.prog X.w) X.A (.compLoop (.SetComp elt [⟨tg, iter, ifs, 0⟩] scope pos) 0 (.ref it) (.ref D) ce) (compPost (model X.prog X.w) X.A X.xe use Qf (.ref D) u3.heap.objs.size) u4 := by
    refine compLoopS_any (fun n t => ∃ i M, L2.Inv (X.blk u3 K3 scope ce fp) [] (wipe σ (own.map (·.2))) M t ∧ tn i t.heap ∧ (∀ b ∈ fp, M b = none) ∧ W i n M) ?_ m0 ⟨0, K3, I4, z4, n3, w0⟩
    rintro n t5 ⟨i, M5, I5, z5, n5, w5⟩
    rcases turn i n M5 w5 with ⟨sp, qq⟩ | ⟨go, N, hN', sm⟩
    · have td := T.done (X.blk u3 K3 scope ce fp) rfl rfl rfl hc i [] t5 _ M5 (fun _ _ => False) I5 (fpk I5 n5) z5 sp
      refine thnF td fun r t6 hr => ?_
      obtain ⟨er, I6⟩ := hr
      subst er
      have I7 : L2.Inv X pins σ M5 t6 := I3.call' (ch := fp) I6.os I6.base I6.hok I6.bare fun b hb => ⟨(f3 b hb).1.2.2.2.1, (f3 b hb).1.2.1, (f3 b hb).1.2.2.2.2.1, (f3 b hb).1.2.2.2.2.2⟩
      have nC : M5 u3.heap.objs.size = none := cL ▸ (show M5 ce.locals = none from I6.free)
      obtain ⟨m, hn, _⟩ := I6.loc
      have hn2 : t6.heap.Ns ce.locals m := hn
      rw [cL] at hn2
      exact fin D u3.heap.objs.size t6 m M5 I7 qq hn2 (I3.fpOk (Nat.le_refl _) nC)
    · have ti := T.item (X.blk u3 K3 scope ce fp) rfl rfl rfl hc i [] t5 _ M5 (fun _ _ => False) I5 (fpk I5 n5) z5 go
      refine thnF ti fun r t6 hr => ?_
      obtain ⟨u, er, h6⟩ := hr
      subst er
      refine thnF h6 fun _ t7 h7 => ?_
      obtain ⟨x, M7, I7, r7, y7, z7, n7⟩ := h7
      have J7 := I7.pinned (fpk I7 n7) (T.obj _ _ z7)
      refine thnF (pg.run _ t7 _ M7 x u _ J7 r7 (sm x M7 y7)) fun _ t8 h8 => ?_
      obtain ⟨τ8, M8, I8, hw8, q8⟩ := h8
      refine thnF (pt.run _ t8 τ8 M8 _ I8 q8) fun b t9 h9 => ?_
      obtain ⟨M9, I9, q9⟩ := h9
      have stop : ∀ {t : Shared} {M : Hp}, L2.Inv (X.blk u3 K3 scope ce fp) ([] ++ pinsAt fp t7.heap) τ8 M t → N M → ∃ m, m < n ∧ ∃ i M, L2.Inv (X.blk u3 K3 scope ce fp) [] (wipe σ (own.map (·.2))) M t ∧ tn i t.heap ∧ (∀ b ∈ fp, M b = none) ∧ W i m M := fun {t M} Z nm => by
        obtain ⟨m', hm, w'⟩ := hN' M nm
        have pn : ∀ b ∈ fp, ∀ o, t7.heap.get? b = some o → t.heap.get? b = some o ∧ M b = none := fun b hb o e => by
          have z := Z.pin (b, o) (List.mem_append_right _ (List.mem_append_right _ (mem_pinsAt hb e)))
          exact ⟨z.1, z.2.1⟩
        have ln : (wipe σ (own.map (·.2))).length = τ8.length := by rw [← hw8, wipe_length]
        have Z2 : L2.Inv (X.blk u3 K3 scope ce fp) [] (wipe σ (own.map (·.2))) M t := (Z.unpinned (pins := [])).weak ln fun j v e => (wipe_some (σ := τ8) (vs := own.map (·.2)) (by rw [hw8]; exact e)).1
        refine ⟨m', hm, i + 1, M, Z2, T.keep _ _ _ z7 fun b hb o e => (pn b hb o e).1, fun b hb => ?_, w'⟩
        exact (T.obj _ _ z7 b hb).elim fun o e => (pn b hb o e.1).2
      cases b with
      | false =>
        simp only [Bool.false_eq_true, if_false] at q9 ⊢
        exact stop I9 q9
      | true =>
        simp only [if_true] at q9 ⊢
        refine thnF (pe.run _ t9 τ8 M9 _ I9 q9) fun z t10 h10 => ?_
        obtain ⟨yv, M10, I10, r10, k, S0, n0, ey, hD10, hz10, nx⟩ := h10
        subst ey
        refine thnF (mt_sadd (X := X.blk u3 K3 scope ce fp) _ t10 τ8 M10 (.ref D) [.int k] (.ref D) [z] (fun _ M => N M) I10 rfl (.cons r10 .nil) ⟨D, k, S0, n0, rfl, rfl, hD10, hz10, nx⟩) fun _ t11 h11 => ?_
        obtain ⟨_, M11, I11, _, nm⟩ := h11
        exact stop I11 nm
  exact codeAny_compStart_set loop (T.self X.A 0 _ _ _ z4 loop)
theorem pe_si {elt tg iter : Expr} {ifs : List Expr} {scope : Scope} {own : List (PySem.Str × Nat)} {pos : Pos} {wi : TI} {g : TG} {tt : TT} {te : TE} (hc : X.calm = true) (hN : X.N.Nodup) (hi : PI X tg iter wi) (bo : BlkOk X.N X.env.scope scope own)
    (hg : ∀ (u : Shared) (K : Hp) (C : Addr) (cl : List (PySem.Str × Addr)) (fp : List Addr), PG (X.blk u K scope (compEnvC scope cl C X.env) fp) tg g)
    (ht : ∀ (u : Shared) (K : Hp) (C : Addr) (cl : List (PySem.Str × Addr)) (fp : List Addr), PTs (X.blk u K scope (compEnvC scope cl C X.env) fp) ifs tt)
    (he : ∀ (u : Shared) (K : Hp) (C : Addr) (cl : List (PySem.Str × Addr)) (fp : List Addr), PE (X.blk u K scope (compEnvC scope cl C X.env) fp) elt te) (hs : ∀ x, foldedSetIterable iter X.env x = pure x := by intro _; rfl) :
    PE X (.SetComp elt [⟨tg, iter, ifs, 0⟩] scope pos) (tSi X.w wi g tt te (own.map (·.2))) := by
  refine ⟨fun pins s σ H Q I h => ?_⟩
  rw [eval_SetComp]
  refine si_core hc hN I hi bo hg ht he hs h fun D C u m K Z q hn fp => ⟨m, hn, fun g2 sb => ?_⟩
  obtain ⟨f0, f1, f2, f3, f4, f5⟩ := fp
  exact ⟨.ref D, K, Z.turned (t' := u.toks) (fun b o hb e => (sb.2 b hb).trans e) f0 f1 f3 f4 f5, rfl, q⟩
/-- len of such a set -/
def rLenSO (w : World) : List V → Hp → VK → Prop := fun xs H Q => ∃ (a : Addr) (S : Int → Bool) (n : Nat), xs = [V.ref a] ∧ H a = some (SetO w a S n) ∧ Q (.int n) H
theorem call_lenSO : CallR X (.builtin "len") (rLenSO X.w) := by
  intro pins s σ H xs us Q I r ⟨a, S, n, ex, ea, q⟩
  subst ex
  obtain ⟨u, eu, rx⟩ := vals1 r
  subst eu
  cases rx
  obtain ⟨o, es, ep, t, ho, hx, hd, _, _, _, hlt, hf, hn, _⟩ := setO_get I ea
  exact call_len_set ho hx hd hf (by unfold scanBound at hlt; omega) ⟨.int n, H, I.tok _, ⟨_, by rw [hn]⟩, q⟩
end
end Rb

set_option Elab.async false
set_option linter.all false
set_option maxRecDepth 100000
set_option maxHeartbeats 4000000
namespace Rb
open PySem L2
section
variable {b : Bs} {G G' G1 G2 G3 : List (Option HP)} {O O1 O2 O3 O' R : List Ow} {P P1 P2 P3 : HP} {ta tb tc te td ty : TE} {tt tu : TT} {r : R2} {K : PySem.W.Frag} {α β ζ : Type} {f : α → HP} {xs ys : List α} {D : Ends} {t u : TS}
/-! ### equality of data -/
/-- what a value's data is -/
def Dat (S : Hp → Hp → Prop) (P : HP) (d : PyData) : Prop := ∀ K B H v, Same B H → S B H → P.p B v → Dp K H v d
theorem dat_int {S : Hp → Hp → Prop} {i : Int} : Dat S (I i) (.int i) := fun K B H v s _ h => by
  cases (show v = .int i from h)
  exact .int i
theorem dat_all {S : Hp → Hp → Prop} {d : α → PyData} (h : ∀ x ∈ xs, Dat S (f x) (d x)) : ∀ {vs : List V} {B H : Hp}, Same B H → S B H → Paired (fun x v => (f x).p B v) xs vs → DpAll K H vs (xs.map d) := by
  intro vs B H s hs hp
  induction hp with
  | nil => exact .nil
  | cons h1 t ih => exact .cons (h _ (by simp) K B H _ s hs h1) (ih fun x hx => h x (List.mem_cons_of_mem _ hx))
theorem dat_list {S : Hp → Hp → Prop} {d : α → PyData} (h : ∀ x ∈ xs, Dat S (f x) (d x)) : Dat S (L f xs) (.list (xs.map d)) := fun K B H v s hs hv => by
  obtain ⟨a, u, rfl, ha, ws, rfl, hp⟩ := hv
  exact .lst (SqL.of (s a _ ha)) (dat_all h s hs hp)
/-- an owned list -/
theorem dat_own {a : Addr} {d : α → PyData} (ho : (a, oL f xs) ∈ O) (h : ∀ x ∈ xs, Dat (Hold O) (f x) (d x)) : Dat (Hold O) (At a) (.list (xs.map d)) := fun K B H v s hs hv => by
  obtain ⟨_, u, ha, ws, rfl, hp⟩ := hs _ ho
  cases (show v = .ref a from hv)
  exact .lst (SqL.of ha) (dat_all h s hs hp)
theorem dat_pair {S : Hp → Hp → Prop} {d1 d2 : PyData} (h1 : Dat S P1 d1) (h2 : Dat S P2 d2) : Dat S (Tp [P1, P2]) (.tuple [d1, d2]) := fun K B H v s hs hv => by
  obtain ⟨a, u, rfl, ha, ws, rfl, hp⟩ := hv
  obtain ⟨x, y, rfl, hx, hy⟩ := pps2 hp
  exact .tup (SqT.of (s a _ ha)) (.cons (h1 K B H _ s hs hx) (.cons (h2 K B H _ s hs hy) .nil))
theorem dat_triple {S : Hp → Hp → Prop} {d1 d2 d3 : PyData} (h1 : Dat S P1 d1) (h2 : Dat S P2 d2) (h3 : Dat S P3 d3) : Dat S (Tp [P1, P2, P3]) (.tuple [d1, d2, d3]) := fun K B H v s hs hv => by
  obtain ⟨a, u, rfl, ha, ws, rfl, hp⟩ := hv
  obtain ⟨x, y, z, rfl, hx, hy, hz⟩ := pps3 hp
  exact .tup (SqT.of (s a _ ha)) (.cons (h1 K B H _ s hs hx) (.cons (h2 K B H _ s hs hy) (.cons (h3 K B H _ s hs hz) .nil)))
theorem rv_eqD {S : Hp → Hp → Prop} {d e : PyData} {c : Bool} (h1 : Dat S P1 d) (h2 : Dat S P2 e) (s1 : SeqAt.shaped d = true) (s2 : SeqAt.shaped e = true) (hc : PyData.eqv d e = c) : RV S (rEqD K) P1 P2 (Bo c) := fun x y B H s hs hx hy Q k =>
  ⟨d, e, h1 K B H x s hs hx, h2 K B H y s hs hy, s1, s2, k _ B H (Fr.refl s) (by rw [hc]; rfl)⟩
theorem rv_neD {S : Hp → Hp → Prop} {d e : PyData} {c : Bool} (h1 : Dat S P1 d) (h2 : Dat S P2 e) (s1 : SeqAt.shaped d = true) (s2 : SeqAt.shaped e = true) (hc : PyData.eqv d e = c) : RV S (rNeD K) P1 P2 (Bo (!c)) := fun x y B H s hs hx hy Q k =>
  ⟨d, e, h1 K B H x s hs hx, h2 K B H y s hs hy, s1, s2, k _ B H (Fr.refl s) (by rw [hc]; rfl)⟩
theorem shaped_ints (ns : List Int) : SeqAt.shaped (.list (ns.map PyData.int)) = true := by
  have h1 : PyData.canLayAll0 (ns.map PyData.int) = true := by
    induction ns with
    | nil => rfl
    | cons n ns ih => simpa [PyData.canLayAll0, PyData.canLay0] using ih
  have h2 : PyData.depthAll (ns.map PyData.int) = 0 := by
    induction ns with
    | nil => simp [PyData.depthAll]
    | cons n ns ih =>
      have h1' : PyData.canLayAll0 (ns.map PyData.int) = true := by simpa [PyData.canLayAll0, PyData.canLay0] using h1
      simp [PyData.depthAll, PyData.depth, ih h1']
  unfold SeqAt.shaped
  simp [PyData.canLay0, PyData.depth, h1, h2]
theorem eqv_ints : ∀ (ns ms : List Int), PyData.eqv (.list (ns.map PyData.int)) (.list (ms.map PyData.int)) = decide (ns = ms) := by
  have h : ∀ (ns ms : List Int), PyData.eqvAll (ns.map PyData.int) (ms.map PyData.int) = decide (ns = ms) := by
    intro ns
    induction ns with
    | nil =>
      intro ms
      cases ms <;> simp [PyData.eqvAll]
    | cons n ns ih =>
      intro ms
      cases ms with
      | nil => simp [PyData.eqvAll]
      | cons m ms =>
        simp only [List.map_cons, PyData.eqvAll, ih ms, PyData.eqv]
        by_cases e1 : n = m <;> by_cases e2 : ns = ms <;> simp [e1, e2]
  intro ns ms
  simpa [PyData.eqv] using h ns ms
theorem rv_eqL {S : Hp → Hp → Prop} {ns ms : List Int} : RV S (rEqD K) (L I ns) (L I ms) (Bo (decide (ns = ms))) := rv_eqD (dat_list fun _ _ => dat_int) (dat_list fun _ _ => dat_int) (shaped_ints ns) (shaped_ints ms) (eqv_ints ns ms)
theorem rv_neL {S : Hp → Hp → Prop} {ns ms : List Int} : RV S (rNeD K) (L I ns) (L I ms) (Bo (!decide (ns = ms))) := rv_neD (dat_list fun _ _ => dat_int) (dat_list fun _ _ => dat_int) (shaped_ints ns) (shaped_ints ms) (eqv_ints ns ms)
/-- == [] -/
theorem eqv_nil (ds : List PyData) : PyData.eqv (.list ds) (.list []) = ds.isEmpty := by
  cases ds <;> simp [PyData.eqv, PyData.eqvAll]
theorem rv_eqN {S : Hp → Hp → Prop} {d : α → PyData} (h : ∀ x ∈ xs, Dat S (f x) (d x)) (hs : SeqAt.shaped (.list (xs.map d)) = true) : RV S (rEqD K) (L f xs) (L I []) (Bo xs.isEmpty) :=
  rv_eqD (dat_list h) (dat_list (xs := []) (f := I) (d := PyData.int) fun _ _ => dat_int) hs (shaped_ints []) (by rw [List.map_nil, eqv_nil]; simp)
theorem rv_neN {S : Hp → Hp → Prop} {d : α → PyData} (h : ∀ x ∈ xs, Dat S (f x) (d x)) (hs : SeqAt.shaped (.list (xs.map d)) = true) : RV S (rNeD K) (L f xs) (L I []) (Bo (!xs.isEmpty)) :=
  rv_neD (dat_list h) (dat_list (xs := []) (f := I) (d := PyData.int) fun _ _ => dat_int) hs (shaped_ints []) (by rw [List.map_nil, eqv_nil]; simp)
end
end Rb

set_option Elab.async false
set_option linter.all false
set_option maxRecDepth 100000
set_option maxHeartbeats 4000000
namespace Rb
open PySem PySem.Spec PyProof.Rows L2
section
variable {b : Bs} {G G' G1 G2 G3 : List (Option HP)} {O O1 O2 O3 O' R : List Ow} {P P1 P2 P3 : HP} {ta tb tc te td ty : TE} {tt tu : TT} {r : R2} {K : PySem.W.Frag} {α β ζ : Type} {f : α → HP} {xs ys : List α} {D : Ends} {t u : TS}
/-! ### promises -/
abbrev ad (O : List Ow) : List Addr := O.map (·.1)
/-- from a: the arguments, what of them is owned; for what is new (β): the answer, what is owned behind -/
def Spx {α β : Type} (pre : α → Prop) (args : α → List HP) (own : α → List Ow) (res : α → β → HP) (own' : α → β → List Ow) : Sp := fun vs H Q _ => ∃ (a : α) (B : Hp), pre a ∧ Same B H ∧ PPs B (args a) vs ∧ Hold (own a) B H ∧ (ad (own a)).Nodup ∧
  ∀ y v B' H', Same B B' → Same B' H' → (∀ c o, H c = some o → c ∉ ad (own a) → H' c = some o) → (∀ c, H c ≠ none → c ∉ ad (own a) → B' c = B c) → Hold (own' a y) B' H' → (ad (own' a y)).Nodup →
    (∀ c ∈ ad (own' a y), c ∈ ad (own a) ∨ H c = none) → (res a y).p B' v → Q v H'
abbrev SpP {α : Type} (pre : α → Prop) (args : α → List HP) (res : α → HP) : Sp := Spx pre args (fun _ => []) (fun a (_ : Unit) => res a) (fun _ _ => [])
theorem spx_call {pre : α → Prop} {args : α → List HP} {own : α → List Ow} {res : α → β → HP} {own' : α → β → List Ow} {E : XK} {σ : L2.St} {B H : Hp} {vs : List V} {Q : VK} (S : Sta b G (own a ++ R) σ B H) (hp : pre a) (hv : PPs B (args a) vs)
    (k : ∀ y v B' H', Same B B' → Sta b G (own' a y ++ R) σ B' H' → (res a y).p B' v → Q v H') : Spx pre args own res own' vs H Q E := by
  have nd := S.nd
  rw [List.map_append, List.nodup_append] at nd
  obtain ⟨n1, n2, n3⟩ := nd
  refine ⟨a, B, hp, S.bh, hv, fun x hx => (S.ow x (List.mem_append_left _ hx)).2, n1, fun y v B' H' bb bh kp fz ho nd' nw hq => k y v B' H' bb ⟨S.len, S.bb.trans bb, bh, fun c o e => ?_, fun c hc => ?_, fun i P e => ?_, fun x hx => ?_, ?_⟩ hq⟩
  · refine kp c o (S.hh c o e) fun hm => ?_
    obtain ⟨x, hx, rfl⟩ := List.mem_map.mp hm
    rw [(S.ow x (List.mem_append_left _ hx)).1] at e
    cases e
  · have h1 : H c ≠ none := by
      cases e : b.H0 c with
      | none => exact absurd e hc
      | some o =>
        rw [S.hh c o e]
        simp
    rw [fz c h1 fun hm => ?_, S.fz c hc]
    obtain ⟨x, hx, rfl⟩ := List.mem_map.mp hm
    exact hc (S.ow x (List.mem_append_left _ hx)).1
  · obtain ⟨v, e1, h1⟩ := S.sl i P e
    exact ⟨v, e1, P.m bb h1⟩
  · rcases List.mem_append.mp hx with hx | hx
    · have q := ho x hx
      refine ⟨?_, q⟩
      rcases nw x.1 (List.mem_map.mpr ⟨x, hx, rfl⟩) with hm | hm
      · obtain ⟨z, hz, e⟩ := List.mem_map.mp hm
        rw [← e]
        exact (S.ow z (List.mem_append_left _ hz)).1
      · exact S.hh.free hm
    · obtain ⟨h1, h2, u, h3, h4⟩ := S.ow x (List.mem_append_right _ hx)
      have hn : x.1 ∉ ad (own a) := fun hm => n3 _ hm _ (List.mem_map.mpr ⟨x, hx, rfl⟩) rfl
      exact ⟨h1, by rw [fz x.1 (by rw [h3]; simp) hn, h2], u, kp _ _ h3 hn, x.2.m bb h4⟩
  · rw [List.map_append, List.nodup_append]
    refine ⟨nd', n2, fun c hc d hd e => ?_⟩
    subst e
    rcases nw c hc with hm | hm
    · exact n3 _ hm _ hd rfl
    · obtain ⟨x, hx, rfl⟩ := List.mem_map.mp hd
      obtain ⟨_, _, u, h3, _⟩ := S.ow x (List.mem_append_right _ hx)
      rw [h3] at hm
      cases hm
theorem evx_call {pre : α → Prop} {args : α → List HP} {own : α → List Ow} {res : α → β → HP} {own' : α → β → List Ow} {E : XK} {ta : TA} {Ps : List HP} (a : α) (h : EvA b ta G O Ps (own a ++ R)) (hp : pre a) (e : Ps = args a := by rfl) :
    EvX b (tCall (Spx pre args own res own') [] E ta) G O (res a) (fun y => own' a y ++ R) := fun σ B H S Q k => h σ B H S _ fun vs B1 H1 s1 S1 hv => by
  subst e
  rw [List.append_nil]
  exact spx_call S1 hp hv fun y v B' H' s S' q => k y v B' H' (s1.trans s) S' q
theorem ev_call {pre : α → Prop} {args : α → List HP} {res : α → HP} {E : XK} {ta : TA} {Ps : List HP} (a : α) (h : EvA b ta G O Ps O1) (hp : pre a) (e : Ps = args a := by rfl) : Ev b (tCall (SpP pre args res) [] E ta) G O (res a) O1 := fun σ B H S Q k =>
  evx_call (R := O1) a h hp e σ B H S Q fun y v B' H' s S' q => k v B' H' s S' q
/-- a default fills up -/
theorem ev_callD {pre : α → Prop} {args : α → List HP} {res : α → HP} {E : XK} {ta : TA} {Ps : List HP} {j : Int} (a : α) (h : EvA b ta G O Ps O1) (hp : pre a) (e : Ps ++ [I j] = args a := by rfl) : Ev b (tCall (SpP pre args res) [.int j] E ta) G O (res a) O1 := fun σ B H S Q k => h σ B H S _ fun vs B1 H1 s1 S1 hv => by
  have hv2 : PPs B1 (args a) (vs ++ [V.int j]) := by
    rw [← e]
    exact hv.snoc rfl
  exact spx_call (a := a) (R := O1) (β := Unit) S1 hp hv2 fun y v B' H' s S' q => k v B' H' (s1.trans s) S' q
/-- the args' last descriptions hang on what is new -/
theorem evx_callX {γ : Type} {pre : α → Prop} {args : α → List HP} {own : α → List Ow} {res : α → β → HP} {own' : α → β → List Ow} {E : XK} {ta : TA} {Ps : γ → List HP} {Oy : γ → List Ow} (a : γ → α) (h : EvAX b ta G O Ps Oy) (R : γ → List Ow) (ho : ∀ z, Oy z = own (a z) ++ R z) (hp : ∀ z, pre (a z)) (e : ∀ z, Ps z = args (a z)) :
    EvX b (tCall (Spx pre args own res own') [] E ta) G O (fun z : γ × β => res (a z.1) z.2) (fun z => own' (a z.1) z.2 ++ R z.1) := fun σ B H S Q k => h σ B H S _ fun z vs B1 H1 s1 S1 hv => by
  rw [e z] at hv
  rw [ho z] at S1
  rw [List.append_nil]
  exact spx_call S1 (hp z) hv fun y v B' H' s S' q => k (z, y) v B' H' (s1.trans s) S' q
/-! ### instances -/
def o2 (C : Addr) (f1 : Str) (P1 : HP) (f2 : Str) (P2 : HP) : OP := ⟨fun H u => ∃ dx v w, u = .ins C dx [(f1, v), (f2, w)] ∧ P1.p H v ∧ P2.p H w, fun s ⟨dx, v, w, e, h1, h2⟩ => ⟨dx, v, w, e, P1.m s h1, P2.m s h2⟩⟩
def o1 (C : Addr) (f1 : Str) (P1 : HP) : OP := ⟨fun H u => ∃ dx v, u = .ins C dx [(f1, v)] ∧ P1.p H v, fun s ⟨dx, v, e, h1⟩ => ⟨dx, v, e, P1.m s h1⟩⟩
def o0 (C : Addr) : OP := ⟨fun H u => ∃ dx, u = .ins C dx [], fun s h => h⟩
theorem lookup_ne {n m : Str} {v : V} {l : List (Str × V)} (h : ¬ n = m) : List.lookup n ((m, v) :: l) = List.lookup n l := by
  have : (n == m) = false := by simpa using h
  simp [List.lookup, this]
theorem lookup_eq {n : Str} {v : V} {l : List (Str × V)} : List.lookup n ((n, v) :: l) = some v := by simp [List.lookup]
/-- o.f, the first field; the second -/
theorem ev_fld1 {C : Addr} {f1 f2 : Str} (h : Ev b ta G O (Ob (o2 C f1 P1 f2 P2)) O1) (cl : Cls K C) (na : NoAttr K C f1) : Ev b (tFld K ta f1) G O P1 O1 := fun σ B H S Q k => h σ B H S _ fun v B1 H1 s1 S1 hv => by
  obtain ⟨a, u, rfl, ha, dx, x, y, rfl, hx, hy⟩ := hv
  exact ⟨a, C, dx, _, x, rfl, S1.bh a _ ha, cl, na, lookup_eq, k x B1 H1 s1 S1 hx⟩
theorem ev_fld2 {C : Addr} {f1 f2 : Str} (h : Ev b ta G O (Ob (o2 C f1 P1 f2 P2)) O1) (cl : Cls K C) (na : NoAttr K C f2) (hne : ¬ f2 = f1) : Ev b (tFld K ta f2) G O P2 O1 := fun σ B H S Q k => h σ B H S _ fun v B1 H1 s1 S1 hv => by
  obtain ⟨a, u, rfl, ha, dx, x, y, rfl, hx, hy⟩ := hv
  exact ⟨a, C, dx, _, y, rfl, S1.bh a _ ha, cl, na, by rw [lookup_ne hne, lookup_eq], k y B1 H1 s1 S1 hy⟩
/-- .. of an owned one -/
theorem ev_fld2O {C a : Addr} {f1 f2 : Str} (h : Ev b ta G O (At a) O1) (ho : (a, o2 C f1 P1 f2 P2) ∈ O1) (cl : Cls K C) (na : NoAttr K C f2) (hne : ¬ f2 = f1) : Ev b (tFld K ta f2) G O P2 O1 := fun σ B H S Q k => h σ B H S _ fun v B1 H1 s1 S1 hv => by
  obtain ⟨_, _, u, ha, dx, x, y, rfl, hx, hy⟩ := S1.ow _ ho
  cases (show v = .ref a from hv)
  exact ⟨a, C, dx, _, y, rfl, ha, cl, na, by rw [lookup_ne hne, lookup_eq], k y B1 H1 s1 S1 hy⟩
/-- self.f = e, the first field of a new instance; the second -/
theorem go_fld0 {C a : Addr} {f1 : Str} (hv : Ev b te G O P O1) (ha : Ev b ta G O1 (At a) ((a, o0 C) :: O2)) (cl : Cls K C) (na : NoAttr K C f1) (k : Nx b G ((a, o1 C f1 P) :: O2) D.nx) : Go b (sFld K ta te f1) G O D := fun σ B H S =>
  hv σ B H S _ fun v B1 H1 s1 S1 hv => ha σ B1 H1 S1 _ fun w B2 H2 s2 S2 hw => by
    cases (show w = .ref a from hw)
    obtain ⟨_, _, u, hu, dx, rfl⟩ := S2.ow _ (List.mem_cons_self ..)
    exact ⟨a, C, dx, [], rfl, hu, cl, na, by decide, k σ B2 _ (S2.put ⟨dx, v, rfl, P.m s2 hv⟩)⟩
theorem go_fld1 {C a : Addr} {f1 f2 : Str} (hv : Ev b te G O P O1) (ha : Ev b ta G O1 (At a) ((a, o1 C f1 P1) :: O2)) (cl : Cls K C) (na : NoAttr K C f2) (hne : ¬ f1 = f2) (k : Nx b G ((a, o2 C f1 P1 f2 P) :: O2) D.nx) : Go b (sFld K ta te f2) G O D := fun σ B H S =>
  hv σ B H S _ fun v B1 H1 s1 S1 hv => ha σ B1 H1 S1 _ fun w B2 H2 s2 S2 hw => by
    cases (show w = .ref a from hw)
    obtain ⟨_, _, u, hu, dx, x, rfl, hx⟩ := S2.ow _ (List.mem_cons_self ..)
    refine ⟨a, C, dx, [(f1, x)], rfl, hu, cl, na, by show 1 < 1000; decide, ?_⟩
    have e : putF f2 v [(f1, x)] = [(f1, x), (f2, v)] := by
      show (if f1 = f2 then [(f1, v)] else (f1, x) :: putF f2 v []) = _
      rw [if_neg hne]
      rfl
    rw [e]
    exact k σ B2 _ (S2.put ⟨dx, x, v, rfl, hx, P.m s2 hv⟩)
/-- self.f = a new list, owned: the second field -/
theorem go_fld1X {C a : Addr} {f1 f2 : Str} {P : β → HP} {Oy : β → List Ow} (hv : EvX b te G O P Oy) (O2 : β → List Ow) (ha : ∀ y, Ev b ta G (Oy y) (At a) ((a, o1 C f1 P1) :: O2 y)) (cl : Cls K C) (na : NoAttr K C f2) (hne : ¬ f1 = f2) (k : ∀ y, Nx b G ((a, o2 C f1 P1 f2 (P y)) :: O2 y) D.nx) : Go b (sFld K ta te f2) G O D := fun σ B H S =>
  hv σ B H S _ fun y v B1 H1 s1 S1 hv => ha y σ B1 H1 S1 _ fun w B2 H2 s2 S2 hw => by
    cases (show w = .ref a from hw)
    obtain ⟨_, _, u, hu, dx, x, rfl, hx⟩ := S2.ow _ (List.mem_cons_self ..)
    refine ⟨a, C, dx, [(f1, x)], rfl, hu, cl, na, by show 1 < 1000; decide, ?_⟩
    have e : putF f2 v [(f1, x)] = [(f1, x), (f2, v)] := by
      show (if f1 = f2 then [(f1, v)] else (f1, x) :: putF f2 v []) = _
      rw [if_neg hne]
      rfl
    rw [e]
    exact k y σ B2 _ (S2.put ⟨dx, x, v, rfl, hx, (P y).m s2 hv⟩)
/-- o.m(..) -/
theorem ev_meth {pre : α → Prop} {args : α → List HP} {res : α → HP} {E : XK} {tr : TA} {Ps : List HP} {C : Addr} {m f1 f2 : Str} (a : α) (h : Ev b ta G O (Ob (o2 C f1 P1 f2 P2)) O1) (hm1 : ¬ m = f1) (hm2 : ¬ m = f2) (hr : EvA b tr G O1 Ps O2) (hp : pre a) (e : Ob (o2 C f1 P1 f2 P2) :: Ps = args a := by rfl) :
    Ev b (tMeth C m (SpP pre args res) [] E ta tr) G O (res a) O2 := fun σ B H S Q k => h σ B H S _ fun v B1 H1 s1 S1 hv => by
  obtain ⟨x, u, ev, ha, dx, v1, v2, eu, hx, hy⟩ := id hv
  subst ev
  subst eu
  refine ⟨x, dx, _, rfl, S1.bh x _ ha, by rw [lookup_ne hm1, lookup_ne hm2]; rfl, hr σ B1 H1 S1 _ fun vs B2 H2 s2 S2 hvs => ?_⟩
  rw [List.append_nil]
  refine spx_call (a := a) (R := O2) (β := Unit) S2 hp ?_ fun y v B' H' s S' q => k v B' H' ((s1.trans s2).trans s) S' q
  rw [← e]
  exact .cons ((Ob (o2 C f1 P1 f2 P2)).m s2 hv) hvs
/-- C(..): the new instance, seen by all -/
def SpMk {α : Type} (C : Addr) (pre : α → Prop) (args : α → List HP) (o : α → OP) : Sp := Spx (α := Addr × α) (β := Unit) (fun z => pre z.2) (fun z => At z.1 :: args z.2) (fun z => [(z.1, o0 C)]) (fun _ _ => No) (fun z _ => [(z.1, o z.2)])
theorem ev_make {pre : α → Prop} {args : α → List HP} {o : α → OP} {E : XK} {tr : TA} {Ps : List HP} {C : Addr} (a : α) (h : EvA b tr G O Ps O1) (hp : pre a) (e : Ps = args a := by rfl) :
    Ev b (tMake C (SpMk C pre args o) [] E tr) G O (Ob (o a)) O1 := fun σ B H S Q k => h σ B H S _ fun vs B1 H1 s1 S1 hv x dx hx hdx hne => by
  subst e
  have S2 : Sta b G O1 σ B1 (upd H1 dx (.own x)) := by
    refine ⟨S1.len, S1.bb, fun c z q => ?_, fun c z q => ?_, S1.fz, S1.sl, fun z hz => ?_, S1.nd⟩
    · rw [upd_ne (ne_of_none q (S1.bh.free hdx))]
      exact S1.bh c z q
    · rw [upd_ne (ne_of_none q (S1.hh.free hdx))]
      exact S1.hh c z q
    · obtain ⟨h1, h2, u, h3, h4⟩ := S1.ow z hz
      exact ⟨h1, h2, u, by rw [upd_ne (ne_of_none h3 hdx)]; exact h3, h4⟩
  have hx2 : (upd H1 dx (.own x)) x = none := by
    rw [upd_ne (Ne.symm hne)]
    exact hx
  have S3 := S2.own (o := o0 C) hx2 ⟨dx, rfl⟩
  rw [List.append_nil]
  refine spx_call (a := (x, a)) (R := O1) (β := Unit) (own := fun z : Addr × α => [(z.1, o0 C)]) (args := fun z : Addr × α => At z.1 :: args z.2) S3 hp (.cons rfl hv) fun y v B' H' s S' q => ?_
  obtain ⟨B2, S4, hq, s4⟩ := S'.free
  exact ⟨q, k _ B2 H' ((s1.trans s).trans s4) S4 hq⟩
/-! ### a def keeps its promise -/
def FinX (b : Bs) (res : β → HP) (own' : β → List Ow) (Q : VK) : Prop := ∀ y v B H, Same b.B0 B → Same B H → Same b.H0 H → (∀ c, b.H0 c ≠ none → B c = b.B0 c) → (∀ x ∈ own' y, b.H0 x.1 = none ∧ B x.1 = none ∧ ∃ u, H x.1 = some u ∧ x.2.q B u) → (ad (own' y)).Nodup → (res y).p B v → Q v H
theorem FinX.fin {res : HP} {Q : VK} (k : FinX b (fun _ : Unit => res) (fun _ => []) Q) : Fin b res Q := fun v B H h1 h2 h3 h4 h5 => k () v B H h1 h2 h3 h4 (fun x hx => by simp at hx) (by simp) h5
theorem FinX.reb {b' : Bs} {res : β → HP} {own' : β → List Ow} {Q : VK} (r : Reb b b') (k : FinX b res own' Q) : FinX b' res own' Q := fun y v B H h1 h2 h3 h4 h5 h6 h7 =>
  k y v B H (r.bb.trans h1) h2 (r.hh ▸ h3) (fun c h => by rw [h4 c (by rw [r.hh]; exact h), r.fz c h]) (fun x hx => by have := h5 x hx; rw [r.hh] at this; exact this) h6 h7
/-- return e, what is owned behind as the promise says -/
theorem go_retX {res : β → HP} {own' : β → List Ow} {γ : Type} {P : γ → HP} {Oy : γ → List Ow} (h : EvX b te G O P Oy) (y : γ → β) (hs : ∀ z, ∀ x ∈ own' (y z), x ∈ Oy z) (hn : ∀ z, (ad (Oy z)).Nodup → (ad (own' (y z))).Nodup) (e : ∀ z, P z = res (y z)) (k : FinX b res own' D.rt) : Go b (tRet te) G O D := fun σ B H S =>
  h σ B H S _ fun z v B' H' s S' hv => k (y z) v B' H' S'.bb S'.bh S'.hh S'.fz (fun x hx => S'.ow x (hs z x hx)) (hn z S'.nd) (e z ▸ hv)
/-- the end of a def without return -/
theorem nx_fin {Q : VK} (k : Fin b No Q) : Nx b G O (fun _ H => Q .non H) := fun σ B H S => k .non B H S.bb S.bh S.hh S.fz rfl
theorem nx_finX {res : β → HP} {own' : β → List Ow} {Q : VK} (y : β) (hs : ∀ x ∈ own' y, x ∈ O) (hn : (ad O).Nodup → (ad (own' y)).Nodup) (e : No = res y) (k : FinX b res own' Q) : Nx b G O (fun _ H => Q .non H) := fun σ B H S =>
  k y .non B H S.bb S.bh S.hh S.fz (fun x hx => S.ow x (hs x hx)) (hn S.nd) (e ▸ (rfl : No.p B .non))
variable {Pg : Program} {w : World} {mg : Str → Option Value} {base : Heap}
theorem start_get (N : List Str) (vs : List V) (i : Nat) : (L2.start N vs)[i]? = if i < vs.length then vs[i]?.map some else if i < N.length then some none else none := by
  unfold L2.start
  rw [List.getElem?_append]
  simp only [List.length_map]
  split
  · simp
  · rw [List.getElem?_replicate]
    split <;> split <;> first | rfl | omega
theorem fn_ok {pre : α → Prop} {args : α → List HP} {own : α → List Ow} {res : α → β → HP} {own' : α → β → List Ow} {x qual : Str} {params : Arguments} {body : List Stmt} {scope : Scope} {dvs : List V} {kws : List (Str × V)} {f : Addr} {fd : FuncData} {N ps : List Str} {k : Nat}
    (F : FunD K x qual params body scope dvs kws f fd) (S : FnScope N ps scope) (hl : ∀ a, (args a).length = ps.length) (hN : ps.length ≤ N.length)
    (hb : ∀ (cdv : Value) (A : Around) (outer : List Env) (s : Shared) (H : Hp) (E : XK), Room k (A.deeper (envOfC qual scope s.heap.objs.size f cdv)) → ∀ a, pre a →
      ∃ t, PSs (cxOf CX0 Pg w K mg base N qual scope f cdv A outer s H E).nox body t ∧ ∀ b Q, Same b.B0 b.H0 → FinX b (res a) (own' a) Q → Go b t ((args a).map some ++ List.replicate (N.length - ps.length) none) (own a) { nx := fun _ H' => Q .non H', rt := Q }) :
    FnOk Pg w K mg base CX0 (k + 1) f fd ps (Spx pre args own res own') := by
  refine F.ok S (fun vs H Q E h => ?_) (fun cdv A outer s H vs Q E hr h => ?_)
  · obtain ⟨a, B, _, _, hv, _⟩ := h
    rw [← hv.length, hl]
  · obtain ⟨a, B, hp, s0, hv, ho, nd, q⟩ := h
    obtain ⟨t, ht, hg⟩ := hb cdv A outer s H E hr a hp
    refine ⟨t, ht.nox, ?_⟩
    have sB : Same B (fun c => if c ∈ ad (own a) then none else H c) := fun c o e => by
      show (if c ∈ ad (own a) then none else H c) = some o
      rw [if_neg fun hm => ?_]
      · exact s0 c o e
      · obtain ⟨x, hx, rfl⟩ := List.mem_map.mp hm
        rw [(ho x hx).1] at e
        cases e
    have hvl := hv.length
    refine hg ⟨B, fun c => if c ∈ ad (own a) then none else H c⟩ Q sB (fun y v B' H' h1 h2 h3 h4 h5 h6 h7 => q y v B' H' h1 h2 (fun c o e hn => h3 c o (by show (if c ∈ ad (own a) then none else H c) = some o; rw [if_neg hn]; exact e)) (fun c hc hn => h4 c (by show (if c ∈ ad (own a) then none else H c) ≠ none; rw [if_neg hn]; exact hc))
      (fun x hx => (h5 x hx).2) h6 (fun c hc => ?_) h7) _ B H ⟨?_, Same.refl _, s0, fun c o e => ?_, fun _ _ => rfl, fun i P e => ?_, fun z hz => ⟨?_, ho z hz⟩, nd⟩
    · obtain ⟨z, hz, rfl⟩ := List.mem_map.mp hc
      have e := (h5 z hz).1
      by_cases hm : z.1 ∈ ad (own a)
      · exact .inl hm
      · exact .inr (by rw [← e]; show H z.1 = if z.1 ∈ ad (own a) then none else H z.1; rw [if_neg hm])
    · have h1 := hl a
      simp [L2.start]
      omega
    · have e : (if c ∈ ad (own a) then none else H c) = some o := e
      by_cases hm : c ∈ ad (own a)
      · rw [if_pos hm] at e
        cases e
      · rw [if_neg hm] at e
        exact e
    · rw [start_get]
      rw [List.getElem?_append] at e
      simp only [List.length_map] at e
      by_cases hi : i < (args a).length
      · rw [if_pos hi] at e
        rw [if_pos (by rw [← hvl]; exact hi)]
        have e2 : (args a)[i]? = some P := by
          rw [List.getElem?_map] at e
          cases h : (args a)[i]? with
          | none =>
            rw [h] at e
            cases e
          | some P' =>
            rw [h] at e
            cases e
            rfl
        obtain ⟨v, hv1, hv2⟩ := paired_get hv e2
        exact ⟨v, by rw [hv1]; rfl, hv2⟩
      · rw [if_neg hi] at e
        rw [List.getElem?_replicate] at e
        split at e
        · cases e
        · cases e
    · show (if z.1 ∈ ad (own a) then none else H z.1) = none
      rw [if_pos (List.mem_map.mpr ⟨z, hz, rfl⟩)]
/-- a def of the text, as it is called; dvs: its defaults that fill up -/
structure Fn (Pg : Program) (w : World) (K : PySem.W.Frag) (mg : Str → Option Value) (base : Heap) (k : Nat) (x : Str) (sp : Sp) (dvs : List V) : Prop where
  ex : ∃ f fd ps ds, FnOk Pg w K mg base CX0 k f fd ps sp ∧ mg x = some (.ref f) ∧ PySem.W.keepIn K (.ref f) = true ∧ Binds K fd ps ds ∧ Vals dvs ds
/-- a method -/
structure FnM (Pg : Program) (w : World) (K : PySem.W.Frag) (mg : Str → Option Value) (base : Heap) (k : Nat) (C : Addr) (m : Str) (sp : Sp) : Prop where
  ex : ∃ f fd ps, FnOk Pg w K mg base CX0 k f fd ps sp ∧ Meth K C m f ∧ Binds K fd ps []
/-- a class, by its __init__ -/
structure FnC (Pg : Program) (w : World) (K : PySem.W.Frag) (mg : Str → Option Value) (base : Heap) (k : Nat) (x : Str) (C : Addr) (sp : Sp) : Prop where
  ex : ∃ f fd ps, FnOk Pg w K mg base CX0 k f fd ps sp ∧ mg x = some (.ref C) ∧ Mk K C f ∧ Binds K fd ps []
variable {X : Cx} {x m : Str} {k : Nat} {sp : Sp} {dvs : List V} {e o : Expr} {es : List Expr} {tr : TA} {p pos apos : Pos} {C : Addr} {to : TE}
theorem pe_fn (F : Fn X.prog X.w X.K X.mg X.base k x sp dvs) (hr : Room k X.A) (hg : Gl X x) (ha : PA X (e :: es) tr) (hdb : (x == ("__debug__" : Str)) = false := by decide)
    (he : starEach (e :: es) X.env = (false, eval e X.env) :: starEach es X.env := by rfl) (hpl : (backTo pos (starEach es X.env)).any (·.1) = false := by rfl) : PE X (.Call (.Name x p) (e :: es) [] pos) (tCall sp dvs E0 tr) := by
  obtain ⟨f, fd, ps, ds, h1, h2, h3, h4, h5⟩ := F.ex
  exact pe_call h1 hr hg h2 h3 h4 h5 pass0 ha hdb he hpl
theorem pe_mt {pl : Sem Bool} (F : FnM X.prog X.w X.K X.mg X.base k C m sp) (hr : Room k X.A) (c : Cls X.K C) (ho : PE X o to) (ha : PA X (e :: es) tr)
    (hst : starEach (e :: es) X.env = (false, eval e X.env) :: starEach es X.env := by rfl) (hpl : (backTo pos (starEach es X.env)).any (·.1) = false := by rfl)
    (ht : eval (.Call (.Attribute o m apos) (e :: es) [] pos) X.env = (do
      let ov ← eval o X.env
      standAt apos.atName
      let (f, first) ← holding [ov] (getMethod ov m pl)
      callWith pos f first (backTo pos (starEach (e :: es) X.env)) (backToKw pos (keywordEach [] X.env))) := by rfl) : PE X (.Call (.Attribute o m apos) (e :: es) [] pos) (tMeth C m sp [] E0 to tr) := by
  obtain ⟨f, fd, ps, h1, h2, h3⟩ := F.ex
  exact pe_meth ho c h2 h1 hr h3 .nil pass0 ha hst hpl ht
theorem pe_mt0 {pl : Sem Bool} (F : FnM X.prog X.w X.K X.mg X.base k C m sp) (hr : Room k X.A) (c : Cls X.K C) (ho : PE X o to)
    (ht : eval (.Call (.Attribute o m apos) [] [] pos) X.env = (do
      let ov ← eval o X.env
      standAt apos.atName
      let (f, first) ← holding [ov] (getMethod ov m pl)
      callWith pos f first (backTo pos (starEach [] X.env)) (backToKw pos (keywordEach [] X.env))) := by rfl) : PE X (.Call (.Attribute o m apos) [] [] pos) (tMeth C m sp [] E0 to tNil) := by
  obtain ⟨f, fd, ps, h1, h2, h3⟩ := F.ex
  exact pe_meth0 ho c h2 h1 hr h3 .nil pass0 ht
theorem pe_mk (F : FnC X.prog X.w X.K X.mg X.base k x C sp) (hr : Room (k + 1) X.A) (hg : Gl X x) (ha : PA X (e :: es) tr) (hdb : (x == ("__debug__" : Str)) = false := by decide)
    (he : starEach (e :: es) X.env = (false, eval e X.env) :: starEach es X.env := by rfl) (hpl : (backTo pos (starEach es X.env)).any (·.1) = false := by rfl) : PE X (.Call (.Name x p) (e :: es) [] pos) (tMake C sp [] E0 tr) := by
  obtain ⟨f, fd, ps, h1, h2, h3, h4⟩ := F.ex
  exact pe_make h3 h1 hr hg h2 h4 .nil pass0 ha hdb he hpl
/-- len(o), o.__len__ a def of the program -/
theorem pe_lenOwn {k : Nat} (F : FnM X.prog X.w X.K X.mg X.base k C "__len__" sp) (hr : Room (k + 1) X.A) (hg : Gl X "len") (hm : X.mg "len" = none) (ha : PE X o to)
    (he : starEach (o :: []) X.env = (false, eval o X.env) :: starEach [] X.env := by rfl) (hpl : (backTo pos (starEach [] X.env)).any (·.1) = false := by rfl) : PE X (.Call (.Name "len" p) [o] [] pos) (tCB (rLenI C sp) (tCons to tNil)) := by
  obtain ⟨f, fd, ps, h1, h2, h3⟩ := F.ex
  exact pe_callB (call_lenI h2 h1 hr h3) hg hm PySem.boot_len (pa_cons ha pa_nil he) (by decide) (by decide) he hpl
theorem rc_lenI {S : Hp → Hp → Prop} {pre : α → Prop} {args : α → List HP} {n : α → Int} {f1 f2 : Str} (a : α) (hp : pre a) (e : [Ob (o2 C f1 P1 f2 P2)] = args a) (h0 : 0 ≤ n a) (h1 : n a < 2 ^ 63) : RC S (rLenI C (SpP pre args fun a => I (n a))) [Ob (o2 C f1 P1 f2 P2)] (I (n a)) := fun vs B H s _ h Q k => by
  obtain ⟨v, ev, hv⟩ := pps1 h
  subst ev
  obtain ⟨x, u, ev, hx, dx, v1, v2, eu, q1, q2⟩ := id hv
  subst ev
  subst eu
  refine ⟨x, dx, _, rfl, s x _ hx, ?_⟩
  refine ⟨a, B, hp, s, e ▸ (.cons hv .nil), fun x hx => by simp at hx, by simp, fun y v B' H' bb bh kp fz _ _ _ hq => ?_⟩
  exact ⟨n a, hq, h0, h1, k _ B' H' ⟨fun c o z => kp c o z (by simp), bb, bh, fun c hc => fz c hc (by simp)⟩ rfl⟩
end
end Rb

set_option Elab.async false
set_option linter.all false
set_option maxRecDepth 100000
set_option maxHeartbeats 4000000
namespace Rb
open PySem PySem.Spec PyProof.Rows L2
section
variable {b : Bs} {G G' G1 G2 G3 : List (Option HP)} {O O1 O2 O3 O' R : List Ow} {P P1 P2 P3 : HP} {ta tb tc te td ty : TE} {tt tu : TT} {r : R2} {K : PySem.W.Frag} {α β ζ : Type} {f : α → HP} {xs ys : List α} {D : Ends} {t u : TS} {kvs : List (Int × α)}
/-! ### a dict under a lock -/
abbrev PD (B : Hp) (f : α → HP) (kvs : List (Int × α)) (vs : List (Key × V)) : Prop := Paired (fun x v => v.1 = Sum.inl x.1 ∧ (f x.2).p B v.2) kvs vs
/-- within b' the dict at d is locked -/
structure Lk (b' : Bs) (d : Addr) (f : α → HP) (kvs : List (Int × α)) (od : Obj) (vs : List (Key × V)) : Prop where
  frz : b'.H0 d = some (.frz od (.dK vs))
  pd : PD b'.B0 f kvs vs
theorem sta_lock {d : Addr} {σ : L2.St} {B H : Hp} (S : Sta b G ((d, oD f kvs) :: R) σ B H) : ∃ vs, H d = some (.dK vs) ∧ ∀ od, ∃ b', Lk b' d f kvs od vs ∧ Sta b' G R σ B (upd H d (.frz od (.dK vs))) ∧
    (∀ G' R' σ' B' H', Sta b' G' R' σ' B' H' → H' d = some (.frz od (.dK vs)) ∧ Same B B' ∧ Sta b G' ((d, oD f kvs) :: R') σ' B' (upd H' d (.dK vs))) ∧
    (∀ P Q, Fin b P Q → Fin b' P (fun v H' => H' d = some (.frz od (.dK vs)) ∧ Q v (upd H' d (.dK vs)))) ∧ ∀ c, b'.H0 c = none → H c = none ∨ c ∈ ad R := by
  obtain ⟨h1, h2, u, h3, ws, eu, hp⟩ := S.ow _ (List.mem_cons_self ..)
  subst eu
  refine ⟨ws, h3, fun od => ?_⟩
  have nd := List.nodup_cons.mp S.nd
  have key : ∀ c, c ∉ ad R → c ≠ d → (fun c => if c ∈ ad R then none else (upd H d (.frz od (.dK ws))) c) c = H c := fun c hc hd => by
    show (if c ∈ ad R then none else (upd H d (.frz od (.dK ws))) c) = H c
    rw [if_neg hc, upd_ne hd]
  have keyd : (fun c => if c ∈ ad R then none else (upd H d (.frz od (.dK ws))) c) d = some (.frz od (.dK ws)) := by
    show (if d ∈ ad R then none else (upd H d (.frz od (.dK ws))) d) = _
    rw [if_neg nd.1, upd_same]
  have b0 : ∀ c o, b.H0 c = some o → c ∉ ad R ∧ c ≠ d := fun c o e => by
    constructor
    · intro hm
      obtain ⟨x, hx, rfl⟩ := List.mem_map.mp hm
      rw [(S.ow x (List.mem_cons_of_mem _ hx)).1] at e
      cases e
    · intro hd
      subst hd
      rw [h1] at e
      cases e
  have sub : ∀ (c : Addr) (o : HO), b.H0 c = some o → (fun c => if c ∈ ad R then none else (upd H d (.frz od (.dK ws))) c) c = some o := fun c o e => by
    obtain ⟨q1, q2⟩ := b0 c o e
    rw [key c q1 q2]
    exact S.hh c o e
  refine ⟨⟨B, fun c => if c ∈ ad R then none else (upd H d (.frz od (.dK ws))) c⟩, ⟨keyd, hp⟩, ?_, ?_, ?_, fun c e => ?_⟩
  · refine ⟨S.len, Same.refl _, fun c o e => ?_, fun c o e => ?_, fun _ _ => rfl, S.sl, fun x hx => ?_, nd.2⟩
    · rw [upd_ne (fun z => by rw [z, h2] at e; cases e)]
      exact S.bh c o e
    · have e : (if c ∈ ad R then none else (upd H d (.frz od (.dK ws))) c) = some o := e
      by_cases hm : c ∈ ad R
      · rw [if_pos hm] at e
        cases e
      · rw [if_neg hm] at e
        exact e
    · obtain ⟨g1, g2, u, g3, g4⟩ := S.ow x (List.mem_cons_of_mem _ hx)
      have hxm : x.1 ∈ ad R := List.mem_map.mpr ⟨x, hx, rfl⟩
      refine ⟨?_, g2, u, ?_, g4⟩
      · show (if x.1 ∈ ad R then none else (upd H d (.frz od (.dK ws))) x.1) = none
        rw [if_pos hxm]
      · rw [upd_ne (fun z => nd.1 (by rw [z] at hxm; exact hxm))]
        exact g3
  · intro G' R' σ' B' H' S'
    have hd : H' d = some (.frz od (.dK ws)) := S'.hh d _ keyd
    have hBd : B' d = none := by
      rw [S'.fz d (by show (fun c => if c ∈ ad R then none else (upd H d (.frz od (.dK ws))) c) d ≠ none; rw [keyd]; simp)]
      exact h2
    refine ⟨hd, S'.bb, S'.len, S.bb.trans S'.bb, fun c o e => ?_, fun c o e => ?_, fun c hc => ?_, S'.sl, fun x hx => ?_, ?_⟩
    · rw [upd_ne (fun z => by rw [z, hBd] at e; cases e)]
      exact S'.bh c o e
    · rw [upd_ne (b0 c o e).2]
      exact S'.hh c o (sub c o e)
    · cases e : b.H0 c with
      | none => exact absurd e hc
      | some o =>
        rw [S'.fz c (by show (fun c => if c ∈ ad R then none else (upd H d (.frz od (.dK ws))) c) c ≠ none; rw [sub c o e]; simp)]
        exact S.fz c hc
    · rcases List.mem_cons.mp hx with rfl | hx
      · exact ⟨h1, hBd, _, upd_same, ws, rfl, pairedD_mono S'.bb hp⟩
      · obtain ⟨g1, g2, u, g3, g4⟩ := S'.ow x hx
        refine ⟨?_, g2, u, ?_, g4⟩
        · cases e : b.H0 x.1 with
          | none => rfl
          | some o =>
            have := sub _ _ e
            rw [show (fun c => if c ∈ ad R then none else (upd H d (.frz od (.dK ws))) c) x.1 = none from g1] at this
            cases this
        · rw [upd_ne]
          · exact g3
          · intro z
            rw [z] at g1
            rw [show (fun c => if c ∈ ad R then none else (upd H d (.frz od (.dK ws))) c) d = none from g1] at keyd
            cases keyd
    · refine List.nodup_cons.mpr ⟨fun hm => ?_, S'.nd⟩
      obtain ⟨x, hx, e⟩ := List.mem_map.mp hm
      obtain ⟨g1, _⟩ := S'.ow x hx
      rw [e] at g1
      rw [show (fun c => if c ∈ ad R then none else (upd H d (.frz od (.dK ws))) c) d = none from g1] at keyd
      cases keyd
  · intro P Q k v B' H' g1 g2 g3 g4 g5
    have hd : H' d = some (.frz od (.dK ws)) := g3 d _ keyd
    have hBd : B' d = none := by
      rw [g4 d (by show (fun c => if c ∈ ad R then none else (upd H d (.frz od (.dK ws))) c) d ≠ none; rw [keyd]; simp)]
      exact h2
    refine ⟨hd, k v B' _ (S.bb.trans g1) (fun c o e => ?_) (fun c o e => ?_) (fun c hc => ?_) g5⟩
    · rw [upd_ne (fun z => by rw [z, hBd] at e; cases e)]
      exact g2 c o e
    · rw [upd_ne (b0 c o e).2]
      exact g3 c o (sub c o e)
    · cases e : b.H0 c with
      | none => exact absurd e hc
      | some o =>
        rw [g4 c (by show (fun c => if c ∈ ad R then none else (upd H d (.frz od (.dK ws))) c) c ≠ none; rw [sub c o e]; simp)]
        exact S.fz c hc
  · have e : (if c ∈ ad R then none else (upd H d (.frz od (.dK ws))) c) = none := e
    by_cases hm : c ∈ ad R
    · exact .inr hm
    · rw [if_neg hm] at e
      by_cases hd : c = d
      · rw [hd, upd_same] at e
        cases e
      · rw [upd_ne hd] at e
        exact .inl e
theorem ev_lock {d : Addr} (h : ∀ b' od vs, Lk b' d f kvs od vs → Ev b' te G R P R) : Ev b (tLockE te) G ((d, oD f kvs) :: R) P ((d, oD f kvs) :: R) := fun σ B H S Q k => by
  obtain ⟨vs, h1, h2⟩ := sta_lock S
  refine ⟨d, _, h1, trivial, fun od => ?_⟩
  obtain ⟨b', hl, S', un, _, _⟩ := h2 od
  refine h b' od vs hl σ B _ S' _ fun v B' H' s S2 hv => ?_
  obtain ⟨q1, q2, q3⟩ := un _ _ _ _ _ S2
  exact ⟨q1, k v B' _ s q3 hv⟩
theorem evx_lock {d : Addr} {P : β → HP} {Oy : β → List Ow} (h : ∀ b' od vs, Lk b' d f kvs od vs → EvX b' te G R P Oy) : EvX b (tLockE te) G ((d, oD f kvs) :: R) P (fun y => (d, oD f kvs) :: Oy y) := fun σ B H S Q k => by
  obtain ⟨vs, h1, h2⟩ := sta_lock S
  refine ⟨d, _, h1, trivial, fun od => ?_⟩
  obtain ⟨b', hl, S', un, _, _⟩ := h2 od
  refine h b' od vs hl σ B _ S' _ fun y v B' H' s S2 hv => ?_
  obtain ⟨q1, q2, q3⟩ := un _ _ _ _ _ S2
  exact ⟨q1, k y v B' _ s q3 hv⟩
/-- a statement under a lock: what follows by N, a return by Q -/
theorem go_lock {d : Addr} {Gn : List (Option HP)} {On : List Ow} (hn : Nx b Gn ((d, oD f kvs) :: On) D.nx)
    (h : ∀ b' od vs, Lk b' d f kvs od vs → ∀ D' : Ends, Nx b' Gn On D'.nx → (∀ P, Fin b P D.rt → Fin b' P D'.rt) → Go b' t G R D') : Go b (tLock t) G ((d, oD f kvs) :: R) D := fun σ B H S => by
  obtain ⟨vs, h1, h2⟩ := sta_lock S
  refine ⟨d, _, h1, trivial, fun od => ?_⟩
  obtain ⟨b', hl, S', un, fin, _⟩ := h2 od
  refine h b' od vs hl _ (fun σ' B' H' S2 => ?_) (fun P k => fin P _ k) σ B _ S'
  obtain ⟨q1, q2, q3⟩ := un _ _ _ _ _ S2
  exact ⟨q1, hn σ' B' _ q3⟩
section
variable {d : Addr} {od : Obj} {vs : List (Key × V)}
theorem pd_get {B : Hp} (h : PD B f kvs vs) {i : Nat} {z : Int × α} (e : kvs[i]? = some z) : ∃ v, vs[i]? = some (Sum.inl z.1, v) ∧ (f z.2).p B v := by
  obtain ⟨v, h1, h2, h3⟩ := paired_get h e
  obtain ⟨k, v⟩ := v
  cases (show k = _ from h2)
  exact ⟨v, h1, h3⟩
theorem src_items (l : Lk b d f kvs od vs) (h : Ev b td G O (At d) O1) : Src b (iItems td) G O kvs (En f) O1 := fun σ B H S Q k => h σ B H S _ fun v B1 H1 s1 S1 hv => by
  cases (show v = .ref d from hv)
  have hp : PD B1 f kvs vs := pairedD_mono S1.bb l.pd
  refine ⟨d, od, vs, rfl, S1.hh d _ l.frz, k _ B1 H1 s1 S1 (wlk_pair (fun z => rfl) (fun i H2 hi s s' => ⟨s' d _ l.frz, by rw [← hp.length]; exact hi⟩) (fun H2 s s' => ⟨s' d _ l.frz, by rw [hp.length]; exact Nat.le_refl _⟩) fun i z H2 x H3 hz s _ yl => ?_)⟩
  obtain ⟨t, k', v', e, rfl, ht, rfl⟩ := yl
  obtain ⟨w, hw, hf⟩ := pd_get hp hz
  rw [hw] at e
  cases e
  exact ⟨t, _, _, rfl, ht, rfl, rfl, hf⟩
theorem src_values (l : Lk b d f kvs od vs) (h : Ev b td G O (At d) O1) : Src b (iVals td) G O (kvs.map (·.2)) f O1 := fun σ B H S Q k => h σ B H S _ fun v B1 H1 s1 S1 hv => by
  cases (show v = .ref d from hv)
  have hp : PD B1 f kvs vs := pairedD_mono S1.bb l.pd
  refine ⟨d, od, vs, rfl, S1.hh d _ l.frz, k _ B1 H1 s1 S1 ⟨fun i H2 hi s s' => ⟨s' d _ l.frz, by rw [← hp.length]; simpa using hi⟩, fun H2 s s' => ⟨s' d _ l.frz, by rw [List.length_map, hp.length]; exact Nat.le_refl _⟩, fun i z H2 x H3 hz s _ yl B2 sB sH => ?_⟩⟩
  obtain ⟨rfl, k', e⟩ := yl
  rw [List.getElem?_map] at hz
  cases hk : kvs[i]? with
  | none =>
    rw [hk] at hz
    cases hz
  | some q =>
    rw [hk] at hz
    cases hz
    obtain ⟨w, hw, hf⟩ := pd_get hp hk
    rw [hw] at e
    cases e
    exact ⟨B2, Fr.refl sH, (f _).m sB hf⟩
theorem src_keys (l : Lk b d f kvs od vs) (h : Ev b td G O (At d) O1) : Src b (iKeys td) G O (kvs.map (·.1)) I O1 := fun σ B H S Q k => h σ B H S _ fun v B1 H1 s1 S1 hv => by
  cases (show v = .ref d from hv)
  have hp : PD B1 f kvs vs := pairedD_mono S1.bb l.pd
  refine ⟨d, od, rfl, .inl ⟨vs, S1.hh d _ l.frz, k _ B1 H1 s1 S1 ⟨fun i H2 hi s s' => ⟨s' d _ l.frz, by rw [← hp.length]; simpa using hi⟩, fun H2 s s' => ⟨s' d _ l.frz, by rw [List.length_map, hp.length]; exact Nat.le_refl _⟩, fun i z H2 x H3 hz s _ yl B2 sB sH => ?_⟩⟩⟩
  obtain ⟨rfl, k', v', e, rfl⟩ := yl
  rw [List.getElem?_map] at hz
  cases hk : kvs[i]? with
  | none =>
    rw [hk] at hz
    cases hz
  | some q =>
    rw [hk] at hz
    cases hz
    obtain ⟨w, hw, hf⟩ := pd_get hp hk
    rw [hw] at e
    cases e
    exact ⟨B2, Fr.refl sH, rfl⟩
/-- d[k] of the locked dict -/
theorem ev_dgetL {k : Int} {x : α} (l : Lk b d f kvs od vs) (h : Ev b td G O (At d) O1) (hk : Ev b ty G O1 (I k) O2) (e : dl kvs k = some x) : Ev b (tDGet td ty) G O (f x) O2 := fun σ B H S Q q =>
  h σ B H S _ fun v B1 H1 s1 S1 hv => hk σ B1 H1 S1 _ fun w B2 H2 s2 S2 hw => by
    cases (show v = .ref d from hv)
    cases (show w = .int k from hw)
    have hp : PD B2 f kvs vs := pairedD_mono S2.bb l.pd
    obtain ⟨y, hy, hf⟩ := dl_some hp e
    exact ⟨d, y, rfl, .inl ⟨vs, Sum.inl k, .inr ⟨od, S2.hh d _ l.frz⟩, rfl, hy.symm⟩, q y B2 H2 (s1.trans s2) S2 hf⟩
end
/-! ### the rest -/
theorem src_enumk {ta : TA} {k : Int} (h : EvA b ta G O [L f xs, I k] O1) (h0 : -(2 ^ 63) ≤ k) (h1 : k < 2 ^ 63) : Src b (iEnumk K ta) G O (en k xs) (En f) O1 := fun σ B H S Q q => h σ B H S _ fun vs B1 H1 s1 S1 hv => by
  obtain ⟨v, w, rfl, ⟨a, u, rfl, ha, ws, rfl, hp⟩, hw⟩ := pps2 hv
  cases (show w = .int k from hw)
  refine ⟨a, ws, k, rfl, SqL.of (S1.bh a _ ha), h0, h1, q _ B1 H1 s1 S1 (wlk_pair (fun z => rfl) (fun i H2 hi s _ => ?_) (fun H2 s _ => ?_) fun i z H2 x H3 hz s _ yl => ?_)⟩
  · rw [en_length] at hi
    exact ⟨ws, ws[i]'(by rw [← hp.length]; exact hi), SqL.of (s a _ ha), by simp [← hp.length, hi]⟩
  · exact ⟨ws, SqL.of (s a _ ha), by rw [en_length, hp.length]⟩
  · obtain ⟨t, y, rfl, ht, rfl, hy⟩ := yl
    obtain ⟨e1, e2⟩ := en_get hz
    obtain ⟨w', hw', hf⟩ := paired_get hp e2
    have := hy ws (SqL.of (s a _ ha))
    rw [hw'] at this
    cases this
    exact ⟨t, _, _, rfl, ht, rfl, by rw [e1]; rfl, hf⟩
/-- a, *c = xs -/
theorem go_star {i j : Nat} {x : α} (h : Ev b te G O (L f (x :: xs)) O1) (hl : xs.length ≤ 16000) (k : Nx b ((G.set i (some (f x))).set j (some (L f xs))) O1 D.nx) : Go b (tAsg te (gStar K (gName i) (gName j))) G O D := fun σ B H S => h σ B H S _ fun v B1 H1 s1 S1 hv => by
  obtain ⟨a, u, rfl, ha, ws, rfl, hp⟩ := hv
  cases hp with
  | cons h1 h2 =>
    rename_i w ws
    refine ⟨a, w, ws, rfl, SqL.of (S1.bh a _ ha), by rw [← h2.length]; exact hl, fun d hd => ?_⟩
    have f1 := Fr.new (o := .lst ws) S1.bh hd
    exact k _ _ _ (((S1.step f1).set ((f x).m f1.bb h1)).set ⟨d, _, rfl, upd_same, ws, rfl, paired_mono f1.bb h2⟩)
theorem yes_te {σ : L2.St} {H : Hp} {K1 : V → Hp → Prop} {K2 : Hp → Prop} (h : te σ H K1) : tYes σ H (fun c H3 => if c = true then te σ H3 K1 else K2 H3) := by
  show (if true = true then te σ H K1 else K2 H)
  rw [if_pos rfl]
  exact h
/-- len({q for ..}), all unlike -/
def oS (w : World) (c : Addr) (S : Int → Bool) (n : Nat) : OP := ⟨fun _ u => u = SetO w c S n, fun _ h => h⟩
theorem ev_lenSi {w : World} {wi : TI} {g : TG} {zs : List ζ} {y : ζ → HP} {vs : List Nat} (q : ζ → Int) (Gt : ζ → List (Option HP)) (hs : Src b wi G O zs y O1) (ht : ∀ z ∈ zs, Tg g (y z) (wipeG G vs) (Gt z) vs)
    (he : ∀ z ∈ zs, ∀ O, Ev b te (Gt z) O (I (q z)) O) (hl : zs.length < 4000) (hn : (zs.map q).Nodup) : Ev b (tCB (rLenSO w) (tCons (tSi w wi g tYes te vs) tNil)) G O (I zs.length) O1 := fun σ B H S Q k =>
  hs σ B H S _ fun J B1 H1 s1 S1 W Dl hD => by
  have S0 : Sta b G O1 σ B1 H1 := S1
  have St := (S1.own (o := oS w Dl (fun _ => false) 0) hD rfl).wipe vs
  refine ⟨fun i m H' => m = zs.length - i ∧ i ≤ zs.length ∧ ∃ B' F, Same B1 B' ∧ (∀ k, F k = true ↔ k ∈ (zs.take i).map q) ∧ Sta b (wipeG G vs) ((Dl, oS w Dl F i) :: O1) (L2.wipe σ vs) B' H', ⟨_, rfl, Nat.zero_le _, B1, _, Same.refl _, fun k => by simp, St⟩, ?_⟩
  rintro i m H' ⟨rfl, hi, B', F, sB, hF, S'⟩
  by_cases hlt : i < zs.length
  · refine .inr ⟨W.go i H' hlt (sB.trans S'.bh) S'.hh, fun H2 => ∃ B2 F, Same B1 B2 ∧ (∀ k, F k = true ↔ k ∈ (zs.take (i + 1)).map q) ∧ Sta b (wipeG G vs) ((Dl, oS w Dl F (i + 1)) :: O1) (L2.wipe σ vs) B2 H2, fun H2 p2 => ⟨zs.length - (i + 1), by omega, rfl, hlt, p2⟩, fun x H2 yl => ?_⟩
    have hz : zs[i]? = some zs[i] := by simp [hlt]
    have hm : zs[i] ∈ zs := List.getElem_mem hlt
    obtain ⟨B2, fr, hx⟩ := W.yld i _ H' x H2 hz (sB.trans S'.bh) S'.hh yl B' sB S'.bh
    have S2 := S'.step fr
    refine ht _ hm b _ _ B2 H2 x S2 hx _ fun σ3 w3 S3 => ⟨by rw [w3]; exact wipe_wipe vs vs (fun _ h => h), ?_⟩
    refine yes_te ?_
    refine he _ hm _ σ3 B2 H2 S3 _ fun v B5 H5 s5 S5 hw => ?_
    cases (show v = .int _ from hw)
    obtain ⟨_, h2, u, hu, eu⟩ := S5.ow _ (List.mem_cons_self ..)
    cases (show u = SetO w Dl F i from eu)
    have hFi : ¬ F (q zs[i]) = true := fun hf => by
      obtain ⟨z, hz1, hz2⟩ := List.mem_map.mp ((hF _).mp hf)
      obtain ⟨j, hj⟩ := List.mem_iff_getElem?.mp hz1
      rw [List.getElem?_take] at hj
      by_cases hji : j < i
      · rw [if_pos hji] at hj
        obtain ⟨hjl, ej⟩ := List.getElem?_eq_some_iff.mp hj
        have := List.pairwise_iff_getElem.mp hn j i (by simpa using hjl) (by simpa using hlt) hji
        apply this
        rw [List.getElem_map, List.getElem_map, ej]
        exact hz2
      · rw [if_neg hji] at hj
        cases hj
    refine ⟨q zs[i], F, i, rfl, hu, by unfold scanBound; omega, B5, fun j => F j || decide (j = q zs[i]), (sB.trans fr.bb).trans s5, fun k => ?_, (S'.slots (fr.bb.trans s5) S5).put ?_⟩
    · have e1 : (zs.take (i + 1)).map q = (zs.take i).map q ++ [q zs[i]] := by
        rw [List.take_add_one, hz, List.map_append]
        rfl
      rw [e1, List.mem_append, List.mem_singleton, ← hF k, Bool.or_eq_true, decide_eq_true_eq]
    · rw [if_neg hFi]
      rfl
  · have e : i = zs.length := by omega
    subst e
    refine .inl ⟨W.stop H' (sB.trans S'.bh) S'.hh, ?_⟩
    obtain ⟨_, h2, u, hu, eu⟩ := S'.ow _ (List.mem_cons_self ..)
    cases (show u = SetO w Dl F zs.length from eu)
    exact ⟨Dl, F, zs.length, rfl, hu, k _ B' H' (s1.trans sB) (S0.slots sB S'.tail) rfl⟩
end
end Rb

set_option Elab.async false
set_option linter.all false
set_option maxRecDepth 100000
set_option maxHeartbeats 4000000
namespace Rb
open PySem PySem.Spec PyProof.Rows L2
section
variable {b : Bs} {G G' : List (Option HP)} {O O1 O' : List Ow} {P : HP} {tt : TT} {t : TS} {D : Ends} {te : TE}
theorem ev_yes : EvT b tYes G O true O := fun σ B H S Q k => k B H (Same.refl B) S
theorem filter_yes {α : Type} (l : List α) : l.filter (fun _ => true) = l := List.filter_eq_self.mpr (fun _ _ => rfl)
/-- an if whose test fails -/
theorem go_no {c : Bool} (h : EvT b tt G O c O1) (e : c = false) (k : Nx b G O1 D.nx) : Go b (tIfS tt t tNext) G O D := go_if h (fun z => by rw [e] at z; cases z) fun _ => k
section
variable {u : TS} {P1 P2 : HP} {O2 : List Ow} {ta td ty : TE} {α β ζ : Type} {f : α → HP} {xs : List α} {kvs : List (Int × α)} {K : PySem.W.Frag} {g : TG} {vs : List Nat} {G1 : List (Option HP)}
theorem sq_asg {i : Nat} (h : Ev b te G O P O1) (k : Go b u (G.set i (some P)) O1 D) : Go b (tSeq (tAsg te (gName i)) u) G O D := go_asg (D := { D with nx := u D }) h k
theorem sq_asgX {P : β → HP} {Oy : β → List Ow} {i : Nat} (h : EvX b te G O P Oy) (k : ∀ y, Go b u (G.set i (some (P y))) (Oy y) D) : Go b (tSeq (tAsg te (gName i)) u) G O D := go_asgX (D := { D with nx := u D }) h k
theorem sq_asgT (h : Ev b te G O P O1) (hg : Tg g P G G1 vs) (k : Go b u G1 O1 D) : Go b (tSeq (tAsg te g) u) G O D := go_asgT (D := { D with nx := u D }) h hg k
theorem sq_asgTX {P : β → HP} {Oy : β → List Ow} {Gy : β → List (Option HP)} (h : EvX b te G O P Oy) (hg : ∀ y, Tg g (P y) G (Gy y) vs) (k : ∀ y, Go b u (Gy y) (Oy y) D) : Go b (tSeq (tAsg te g) u) G O D := go_asgTX (D := { D with nx := u D }) h hg k
theorem sq_star {i j : Nat} {x : α} (h : Ev b te G O (L f (x :: xs)) O1) (hl : xs.length ≤ 16000) (k : Go b u ((G.set i (some (f x))).set j (some (L f xs))) O1 D) : Go b (tSeq (tAsg te (gStar K (gName i) (gName j))) u) G O D := go_star (D := { D with nx := u D }) h hl k
theorem sq_drop (h : Ev b te G O P O1) (k : Go b u G O1 D) : Go b (tSeq (tDrop te) u) G O D := go_drop (D := { D with nx := u D }) h k
theorem sq_no {c : Bool} (h : EvT b tt G O c O1) (e : c = false) (k : Go b u G O1 D) : Go b (tSeq (tIfS tt t tNext) u) G O D := go_no (D := { D with nx := u D }) h e k
theorem sq_if {c : Bool} {t1 t2 : TS} (h : EvT b tt G O c O1) (h1 : c = true → Go b t1 G O1 { D with nx := u D }) (h2 : c = false → Go b t2 G O1 { D with nx := u D }) : Go b (tSeq (tIfS tt t1 t2) u) G O D := go_if (D := { D with nx := u D }) h h1 h2
theorem go_cut {t : TS} (h : Go b t G O { D with nx := Pst b G1 O2 }) (k : Go b u G1 O2 D) : Go b (Evl.tCut t u) G O D := fun σ B H S => ⟨Pst b G1 O2, h σ B H S, fun σ' H' ⟨B', S'⟩ => k σ' B' H' S'⟩
theorem sq_for {t : TS} {wi : TI} {zs : List ζ} {y : ζ → HP} (hs : Src b wi G O zs y O1) (Gi : Nat → List (Option HP)) (Oi : Nat → List Ow) (Gt : Nat → ζ → List (Option HP)) (w0 : Wkn (Gi 0) G) (e0 : O1 = Oi 0)
    (ht : ∀ i z, zs[i]? = some z → Tg g (y z) (Gi i) (Gt i z) vs) (hb : ∀ b', Reb b b' → ∀ i z, zs[i]? = some z → Go b' t (Gt i z) (Oi i) { D with nx := Pst b' (Gi (i + 1)) (Oi (i + 1)), ct := Pst b' (Gi (i + 1)) (Oi (i + 1)), bk := u D })
    (hd : Go b u (Gi zs.length) (Oi zs.length) D) : Go b (tSeq (tFor wi g t) u) G O D := go_for (D := { D with nx := u D }) hs Gi Oi Gt w0 e0 ht hb hd
theorem sq_app {l : Addr} {x : α} (ha : Ev b ta G O (At l) O) (he : Ev b te G O (f x) ((l, oL f xs) :: O2)) (ho : ∃ o ys, (l, o) ∈ O ∧ o = oL f ys) (hl : xs.length < 100000) (k : Go b u G ((l, oL f (xs ++ [x])) :: O2) D) :
    Go b (tSeq (tDrop (tBM K "list" rAppend ta (tCons te tNil))) u) G O D := go_app (D := { D with nx := u D }) ha he ho hl k
theorem sq_dput {d : Addr} {j : Int} {x : α} (hv : Ev b te G O (f x) O1) (hd : Ev b td G O1 (At d) O1) (hk : Ev b ty G O1 (I j) ((d, oD f kvs) :: O2)) (hl : kvs.length < 100000) (n : Go b u G ((d, oD f (dp kvs j x)) :: O2) D) : Go b (tSeq (sDPut td ty te) u) G O D := go_dput (D := { D with nx := u D }) hv hd hk hl n
theorem sq_setL {l : Addr} {k : Int} {j : Nat} {x : α} (hv : Ev b te G O (f x) O1) (hd : Ev b td G O1 (At l) O1) (hk : Ev b ty G O1 (I k) ((l, oL f xs) :: O2)) (hj : ixN xs.length k = some j) (n : Go b u G ((l, oL f (xs.set j x)) :: O2) D) : Go b (tSeq (tAsg te (gSub td ty rSetL)) u) G O D := go_setL (D := { D with nx := u D }) hv hd hk hj n
theorem sq_lock {t : TS} {d : Addr} {R : List Ow} {Gn : List (Option HP)} {On : List Ow} (hn : Go b u Gn ((d, oD f kvs) :: On) D)
    (h : ∀ b' od vs, Lk b' d f kvs od vs → ∀ D' : Ends, Nx b' Gn On D'.nx → (∀ P, Fin b P D.rt → Fin b' P D'.rt) → Go b' t G R D') : Go b (tSeq (tLock t) u) G ((d, oD f kvs) :: R) D := go_lock (D := { D with nx := u D }) hn h
end
theorem ev_neg {i : Int} (h : Ev b te G O (I i) O1) : Ev b (tUn (rU fun i => .int (-i)) te) G O (I (-i)) O1 := fun σ B H S Q k => h σ B H S _ fun v B1 H1 s1 S1 hv => ⟨i, hv, k _ B1 H1 s1 S1 rfl⟩
theorem pi_listK {X : Cx} {tg l : Expr} {tl : TE} {K : PySem.W.Frag} (hl : PE X l tl) (hK : X.K = K := by rfl) : PI X tg l (iList K tl) := hK ▸ pi_list hl
theorem pi_tupK {X : Cx} {tg l : Expr} {tl : TE} {K : PySem.W.Frag} (hl : PE X l tl) (hK : X.K = K := by rfl) : PI X tg l (iTup K tl) := hK ▸ pi_tup hl
theorem pe_revLK {X : Cx} {e : Expr} {te : TE} {K : PySem.W.Frag} {k : Nat} {p1 p2 p3 pos : Pos} (he : PE X e te) (hK : X.K = K := by rfl) : PE X (.Subscript e (.Slice none none (some (.UnaryOp .USub (.Constant (.int 1) k p1) p2)) p3) pos) (tRevL K te) := hK ▸ pe_revL he
/-- a comprehension without if -/
theorem ev_lcA {ζ α : Type} {wi : TI} {g : TG} {zs : List ζ} {y : ζ → HP} {vs : List Nat} (f : α → HP) (v : ζ → α) (Gt : ζ → List (Option HP)) (hs : Src b wi G O zs y O1) (ht : ∀ z ∈ zs, Tg g (y z) (wipeG G vs) (Gt z) vs)
    (he : ∀ z ∈ zs, ∀ O, Ev b te (Gt z) O (f (v z)) O) (hl : zs.length < 100000) : Ev b (tLc wi g tYes te vs) G O (L f (zs.map v)) O1 := by
  have := ev_lc f (fun _ => true) v Gt hs ht (fun z _ O => ev_yes) (fun z hz _ O => he z hz O) hl
  rwa [filter_yes] at this
theorem evx_dcA {ζ α : Type} {wi : TI} {g : TG} {zs : List ζ} {y : ζ → HP} {vs : List Nat} {tk tv : TE} (f : α → HP) (q : ζ → Int) (v : ζ → α) (Gt : ζ → List (Option HP)) (hs : Src b wi G O zs y O1) (ht : ∀ z ∈ zs, Tg g (y z) (wipeG G vs) (Gt z) vs)
    (hk : ∀ z ∈ zs, ∀ O, Ev b tk (Gt z) O (I (q z)) O) (he : ∀ z ∈ zs, ∀ O, Ev b tv (Gt z) O (f (v z)) O) (hl : zs.length < 100000) (hn : (zs.map q).Nodup) : EvX b (tDc wi g tYes tk tv vs) G O At (fun d => (d, oD f (zs.map fun z => (q z, v z))) :: O1) := by
  have := evx_dc f (fun _ => true) q v Gt hs ht (fun z _ O => ev_yes) (fun z hz _ O => hk z hz O) (fun z hz _ O => he z hz O) hl hn
  rwa [filter_yes] at this
theorem goR {R : HP} (k : Fin b R D.rt) (h : Ev b te G O P O1) (e : P = R) : Go b (tRet te) G O D := go_ret (h.cast e) k
theorem hu64_of {A : Around} {k : Nat} (hr : Room k A) : A.units + 64 < cLine := hr.units
theorem kit2 {K : PySem.W.Frag} {n a c : String} {x y : Bool} (h1 : kitB n a = some x) (h2 : kitB n c = some y) : PySem.W.kitAny K (.type n) [.type a, .type c] = some (x || y) := by
  refine kitAny_cons (kit_ty h1) (fun e => ?_) fun e => ?_
  · subst e
    exact kitAny_cons (kit_ty h2) (fun e => by subst e; exact kitAny_nil) fun e => by subst e; rfl
  · subst e
    rfl
theorem atI_lt {α : Type} {xs : List α} {i : Int} {x : α} (h : atI xs i = some x) : i < xs.length := by
  obtain ⟨_, _, _, _, _, q⟩ := atI_get h
  exact q
theorem all_yes {α : Type} (l : List α) : l.all (fun _ => true) = true := by simp
end
abbrev Rope := Int × Int × Int
abbrev Ro : Rope → HP := fun r => Tp [I r.1, I r.2.1, I r.2.2]
abbrev PII : Int × Int → HP := fun p => Tp [I p.1, I p.2]
abbrev Be : Int × List Int → HP := fun e => Tp [I e.1, L I e.2]
abbrev RgO (K : PySem.W.Frag) (n : Int) (rs : List Rope) : OP := o2 (He.ga K "Rig") "own_many" (I n) "own_ropes" (Tu Ro rs)
abbrev Rg (K : PySem.W.Frag) (n : Int) (rs : List Rope) : HP := Ob (RgO K n rs)
abbrev TabO (K : PySem.W.Frag) (n : Int) (rs : List Rope) (tabs : List (List (Int × Int × List Int))) : OP := o2 (He.ga K "Table") "own_rig" (Rg K n rs) "best" (L (Dc Be) tabs)
abbrev Tab (K : PySem.W.Frag) (n : Int) (rs : List Rope) (tabs : List (List (Int × Int × List Int))) : HP := Ob (TabO K n rs tabs)
def okR (n : Int) (r : Rope) : Prop := 0 ≤ r.1 ∧ r.1 ≤ n ∧ 0 ≤ r.2.1 ∧ r.2.1 ≤ n ∧ r.1 ≠ r.2.1
structure okRs (n : Int) (rs : List Rope) : Prop where
  all : ∀ r ∈ rs, okR n r
  len : rs.length ≤ 60
  n1 : 1 ≤ n
  n8 : n ≤ 8
def turn (r : Rope) : Rope := (r.2.1, r.1, r.2.2)
def turned (rs : List Rope) : List Rope := rs.map turn
theorem okRs.turned {n : Int} {rs : List Rope} (h : okRs n rs) : okRs n (turned rs) := by
  refine ⟨fun r hr => ?_, by simpa [Rb.turned] using h.len, h.n1, h.n8⟩
  obtain ⟨q, hq, rfl⟩ := List.mem_map.mp hr
  obtain ⟨h1, h2, h3, h4, h5⟩ := h.all q hq
  exact ⟨h3, h4, h1, h2, fun e => h5 e.symm⟩
theorem atI_lastD {xs : List Int} (h : xs ≠ []) : atI xs (-1) = some (xs.getLastD 0) := by
  have q := atI_last xs.dropLast (xs.getLast h)
  rw [List.dropLast_concat_getLast h] at q
  rw [q, List.getLastD_eq_getLast?, List.getLast?_eq_some_getLast h]
  rfl
theorem atI_head {xs : List Int} (h : xs ≠ []) : atI xs 0 = some (xs.headD 0) := by
  cases xs with
  | nil => exact absurd rfl h
  | cons x xs => exact atI_nat (j := 0) rfl
def rp (rs : List Rope) (i : Int) : Rope := rs.getD i.toNat (0, 0, 0)
theorem rp_at {rs : List Rope} {i : Int} (h0 : 0 ≤ i) (h1 : i < rs.length) : atI rs i = some (rp rs i) := by
  have e : i = ((i.toNat : Nat) : Int) := by omega
  have hl : i.toNat < rs.length := by omega
  rw [e]
  refine atI_nat ?_
  unfold rp
  rw [← e, List.getD_eq_getElem?_getD, List.getElem?_eq_getElem hl]
  rfl
def chd : List Rope → Bool
  | r :: s :: t => decide (r.2.1 = s.1) && chd (s :: t)
  | _ => true
theorem chd_zip : ∀ (l : List Rope), ((l.zip (l.drop 1)).map fun z => decide (z.1.2.1 = z.2.1)).all id = chd l
  | [] => rfl
  | [_] => rfl
  | r :: s :: t => by
    have ih := chd_zip (s :: t)
    simp only [List.drop_succ_cons, List.drop_zero, List.zip_cons_cons, List.map_cons, List.all_cons, id_eq, chd] at ih ⊢
    rw [ih]
structure okC (rs : List Rope) (c : List Int) : Prop where
  ne : c ≠ []
  rng : ∀ i ∈ c, 0 ≤ i ∧ i < rs.length
  ch : chd (c.map (rp rs)) = true
  len : c.length ≤ 1000
def kn (rs : List Rope) (c : List Int) : List Int := match c with
  | [] => []
  | i :: r => (rp rs i).1 :: (i :: r).map fun j => (rp rs j).2.1
theorem kn_ne {rs : List Rope} {c : List Int} (h : c ≠ []) : kn rs c ≠ [] := by
  cases c with
  | nil => exact absurd rfl h
  | cons i r => simp [kn]
def sm (rs : List Rope) (c : List Int) : Int := (c.map fun i => (rp rs i).2.2).sum
def ld (rs : List Rope) (c : List Int) (u l : Int) : Bool := decide ((kn rs c).headD 0 = u) && decide ((kn rs c).getLastD 0 = l)
def hi (hs : List Int) (k : Int) : Int := (0 :: hs).getD k.toNat 0
theorem hi_at {hs : List Int} {k : Int} (h0 : 0 ≤ k) (h1 : k ≤ hs.length) : atI ([0] ++ hs) k = some (hi hs k) := by
  have e : k = ((k.toNat : Nat) : Int) := by omega
  have hl : k.toNat < ([0] ++ hs).length := by simp; omega
  rw [e]
  refine atI_nat ?_
  unfold hi
  rw [← e, List.getD_eq_getElem?_getD]
  rw [List.getElem?_eq_getElem hl]
  show _ = some ((([0] ++ hs)[k.toNat]?).getD 0)
  rw [List.getElem?_eq_getElem hl]
  rfl
def room (r : Rope) (hs : List Int) : Int := r.2.2 - hi hs r.1 + hi hs r.2.1
def m_broken (rs : List Rope) (hs : List Int) : List Int := ((en 0 rs).filter fun z => decide (room z.2 hs < 0)).map (·.1)
structure isSt (n : Int) (rs : List Rope) (hs : List Int) : Prop where
  len : (hs.length : Int) = n
  ok : ∀ r ∈ rs, 0 ≤ room r hs
theorem en_mem {α : Type} {lo : Int} {xs : List α} {z : Int × α} (h : z ∈ en lo xs) : z.2 ∈ xs := by
  obtain ⟨i, hi⟩ := List.mem_iff_getElem?.mp h
  exact List.mem_of_getElem? (en_get hi).2
theorem isSt.broken {n : Int} {rs : List Rope} {hs : List Int} (h : isSt n rs hs) : m_broken rs hs = [] := by
  unfold m_broken
  rw [List.filter_eq_nil_iff.mpr]
  · rfl
  · intro z hz
    have := h.ok z.2 (en_mem hz)
    simp
    omega
def m_is_within (t l m : Int) : Bool := decide (l ≤ t) && decide (t ≤ m)
/-- what the top has written -/
structure Wd (K : PySem.W.Frag) (mg : Str → Option Value) : Prop where
  says : He.SaysD fa fn K
  g : ∀ (i : Nat) (x : Str), fa[i]? = some (.glo x) → mg x = some (.ref (He.ga K x))
  z : ∀ (i : Nat) (x : Str), fa[i]? = some (.free x) → mg x = none
  n : ∀ (i : Nat) (x : Str) (j : Int), fa[i]? = some (.int x j) → ∃ t, mg x = some (.int j t)
theorem Wd.of {K : PySem.W.Frag} {mg : Str → Option Value} {h : Heap} (X : K.In h) (G : h.Ns mainGlobals mg) (c : He.SaysD fa fn K) : Wd K mg :=
  ⟨c, fun i x e => He.glo_ok X G (c.fact i e), fun i x e => He.free_ok X G (c.fact i e), fun i x j e => He.int_ok X G (c.fact i e)⟩
variable {K : PySem.W.Frag} {mg : Str → Option Value}
theorem Wd.cRig (W : Wd K mg) : Cls K (He.ga K "Rig") := He.cls_ok (W.says.fact 77 (f := .cls "Rig") rfl)
theorem Wd.cTable (W : Wd K mg) : Cls K (He.ga K "Table") := He.cls_ok (W.says.fact 81 (f := .cls "Table") rfl)
theorem Wd.kRig (W : Wd K mg) : Mk K (He.ga K "Rig") (He.ma K (He.ga K "Rig") "__init__") := He.mkr_ok (W.says.fact 78 (f := .mkr "Rig") rfl)
theorem Wd.kTable (W : Wd K mg) : Mk K (He.ga K "Table") (He.ma K (He.ga K "Table") "__init__") := He.mkr_ok (W.says.fact 82 (f := .mkr "Table") rfl)
theorem Wd.nMany (W : Wd K mg) : NoAttr K (He.ga K "Rig") "own_many" := He.noat_ok (W.says.fact 79 (f := .noat "Rig" "own_many") rfl)
theorem Wd.nRopes (W : Wd K mg) : NoAttr K (He.ga K "Rig") "own_ropes" := He.noat_ok (W.says.fact 80 (f := .noat "Rig" "own_ropes") rfl)
theorem Wd.nRig (W : Wd K mg) : NoAttr K (He.ga K "Table") "own_rig" := He.noat_ok (W.says.fact 83 (f := .noat "Table" "own_rig") rfl)
theorem Wd.nBest (W : Wd K mg) : NoAttr K (He.ga K "Table") "best" := He.noat_ok (W.says.fact 84 (f := .noat "Table" "best") rfl)
end Rb

set_option Elab.async false
set_option linter.all false
set_option maxRecDepth 100000
set_option maxHeartbeats 4000000
namespace Rb
open PySem PySem.Spec PyProof.Rows L2
section
variable {Pg : Program} {w : World} {K : PySem.W.Frag} {mg : Str → Option Value} {base : Heap}
abbrev N_is_whole : List PySem.Str := ["thing"]
theorem sc_is_whole : FnScope N_is_whole ["thing"] (defScope s_is_whole) := ⟨rfl, rfl, rfl, by decide +kernel, rfl, by decide +kernel, by decide +kernel⟩
abbrev sp_is_whole (K : PySem.W.Frag) : Sp := SpP (fun a : Int => True) (fun a => [I a]) (fun a => Bo true)
theorem ok_is_whole (W : Wd K mg) : Fn Pg w K mg base 1 "is_whole" (sp_is_whole K) [] := by
  obtain ⟨fd, F⟩ := W.says.def_ 0 (d := d_is_whole) rfl
  refine ⟨_, fd, ["thing"], [], fn_ok F sc_is_whole (fun _ => rfl) (by decide) ?_, W.g 0 _ rfl, F.kp, FunD.bindsN F (fun _ _ _ _ _ _ us hl => match us, hl with | [_], _ => rfl), .nil⟩
  rintro cdv A outer s H E hr thing hp
  try dsimp only at hp
  refine ⟨_, (pss_one (ps_ret ((pe_and (pe_callB (r := rIsi K) call_isi (by rfl) (W.z 59 _ rfl) (by decide +kernel) (pa_cons (pv 0) (pa_cons (pe_bltn (v := .ty "int") (by rfl) (W.z 66 _ rfl) (by decide +kernel) rfl) pa_nil))) (pe_one (pe_not (pe_callB (r := rIsi K) call_isi (by rfl) (W.z 59 _ rfl) (by decide +kernel) (pa_cons (pv 0) (pa_cons (pe_bltn (v := .ty "bool") (by rfl) (W.z 67 _ rfl) (by decide +kernel) rfl) pa_nil))))))))), fun b Q sb k => ?_⟩
  try dsimp only
  try dsimp only at k
  exact goR k.fin ((ev_andV (ev_cb (ea_cons (ev_var rfl) (ea_cons (ev_ty) ea_nil)) (rc_isi (c := true) (fun _ _ _ => ty_int) (by decide +kernel))) fun _ => (ev_notV (ev_cb (ea_cons (ev_var rfl) (ea_cons (ev_ty) ea_nil)) (rc_isi (c := false) (fun _ _ _ => ty_int) (by decide +kernel)))))) rfl

abbrev N_is_within : List PySem.Str := ["thing", "least", "most"]
theorem sc_is_within : FnScope N_is_within ["thing", "least", "most"] (defScope s_is_within) := ⟨rfl, rfl, rfl, by decide +kernel, rfl, by decide +kernel, by decide +kernel⟩
abbrev sp_is_within (K : PySem.W.Frag) : Sp := SpP (fun a : Int × Int × Int => True) (fun a => [I a.1, I a.2.1, I a.2.2]) (fun a => Bo (m_is_within a.1 a.2.1 a.2.2))
theorem ok_is_within (W : Wd K mg) : Fn Pg w K mg base 2 "is_within" (sp_is_within K) [] := by
  obtain ⟨fd, F⟩ := W.says.def_ 1 (d := d_is_within) rfl
  refine ⟨_, fd, ["thing", "least", "most"], [], fn_ok F sc_is_within (fun _ => rfl) (by decide) ?_, W.g 1 _ rfl, F.kp, FunD.bindsN F (fun _ _ _ _ _ _ us hl => match us, hl with | [_, _, _], _ => rfl), .nil⟩
  rintro cdv A outer s H E hr ⟨thing, least, most⟩ hp
  try dsimp only at hp
  refine ⟨_, (pss_one (ps_ret ((pe_and (pe_fn (ok_is_whole W) (hr.mono (by decide)) (by rfl) (pa_cons (pv 0) pa_nil)) (pe_one (pe_chain op_le op_le (pv 1) (pv 0) (pv 2))))))), fun b Q sb k => ?_⟩
  try dsimp only
  try dsimp only at k
  exact goR k.fin ((ev_andV (ev_call thing (ea_cons (ev_var rfl) ea_nil) trivial) fun _ => (ev_chain (ev_var rfl) (ev_var rfl) rv_le (fun _ => (ev_var rfl)) (fun _ => rv_le)))) rfl

abbrev N_are_wholes : List PySem.Str := ["thing", "many", "one"]
theorem sc_are_wholes : FnScope N_are_wholes ["thing", "many"] (defScope s_are_wholes) := ⟨rfl, rfl, rfl, by decide +kernel, rfl, by decide +kernel, by decide +kernel⟩
abbrev sp_are_wholes (K : PySem.W.Frag) : Sp := SpP (fun a : List Int × Int => a.1.length ≤ 1000) (fun a => [L I a.1, I a.2]) (fun a => Bo (decide ((a.1.length : Int) = a.2)))
theorem ok_are_wholes (W : Wd K mg) : Fn Pg w K mg base 2 "are_wholes" (sp_are_wholes K) [] := by
  obtain ⟨fd, F⟩ := W.says.def_ 2 (d := d_are_wholes) rfl
  refine ⟨_, fd, ["thing", "many"], [], fn_ok F sc_are_wholes (fun _ => rfl) (by decide) ?_, W.g 2 _ rfl, F.kp, FunD.bindsN F (fun _ _ _ _ _ _ us hl => match us, hl with | [_, _], _ => rfl), .nil⟩
  rintro cdv A outer s H E hr ⟨thing, many⟩ hp
  try dsimp only at hp
  refine ⟨_, (pss_one (ps_ret ((pe_and (pe_callB (r := rIsi K) call_isi (by rfl) (W.z 59 _ rfl) (by decide +kernel) (pa_cons (pv 0) (pa_cons (pe_bltn (v := .ty "list") (by rfl) (W.z 63 _ rfl) (by decide +kernel) rfl) pa_nil))) (pe_and (pe_cmpR op_eq (pe_callB (r := rLenQ K) call_len_seq (by rfl) (W.z 60 _ rfl) PySem.boot_len (pa_cons (pv 0) pa_nil)) (pv 1) (nomark _)) (pe_one (pe_callB (r := rAll K) (cr_all rfl) (by rfl) (W.z 61 _ rfl) (by decide +kernel) (pa_cons (pe_lc (own := [("one", 2)]) rfl sc_are_wholes.nd (pi_listK (K := K) (pv 0)) (blkOk_by (own := [("one", 2)]) (N := N_are_wholes) (sc := defScope s_are_wholes) (by decide +kernel)) (fun _ _ _ _ _ => pg_name (i := 2) sc_are_wholes.nd rfl (by first | exact Or.inl rfl | exact Or.inr rfl)) (fun _ _ _ _ _ => pts_nil) (fun _ _ _ _ _ => (pe_fn (ok_is_whole W) (hr.mono (by decide)) (by rfl) (pa_cons (pv 2) pa_nil)))) pa_nil)))))))), fun b Q sb k => ?_⟩
  try dsimp only
  try dsimp only at k
  refine goR k.fin ((ev_andV (ev_cb (ea_cons (ev_var rfl) (ea_cons (ev_ty) ea_nil)) (rc_isi (c := true) (fun _ _ _ => ty_lst) (by decide +kernel))) fun _ => (ev_andV (ev_op (ev_cb (ea_cons (ev_var rfl) ea_nil) rc_lenL) (ev_var rfl) rv_eq) fun _ => (ev_cb (ea_cons (ev_lcA Bo (fun z => true) _ (src_list (ev_var rfl)) (fun z _ => tg_name) (fun z hz O => (ev_call z (ea_cons (ev_var rfl) ea_nil) trivial)) ?s1) ea_nil) rc_all)))) ?_
  · omega
  · simp [all_yes]

abbrev N_is_rope : List PySem.Str := ["thing", "many", "upper", "lower", "most"]
theorem sc_is_rope : FnScope N_is_rope ["thing", "many"] (defScope s_is_rope) := ⟨rfl, rfl, rfl, by decide +kernel, rfl, by decide +kernel, by decide +kernel⟩
abbrev sp_is_rope (K : PySem.W.Frag) : Sp := SpP (fun a : Rope × Int => okR a.2 a.1) (fun a => [Ro a.1, I a.2]) (fun a => Bo true)
theorem ok_is_rope (W : Wd K mg) : Fn Pg w K mg base 3 "is_rope" (sp_is_rope K) [] := by
  obtain ⟨fd, F⟩ := W.says.def_ 3 (d := d_is_rope) rfl
  refine ⟨_, fd, ["thing", "many"], [], fn_ok F sc_is_rope (fun _ => rfl) (by decide) ?_, W.g 3 _ rfl, F.kp, FunD.bindsN F (fun _ _ _ _ _ _ us hl => match us, hl with | [_, _], _ => rfl), .nil⟩
  rintro cdv A outer s H E hr ⟨thing, many⟩ hp
  try dsimp only at hp
  refine ⟨_, (pss_cons (ps_if (PW.pt (pw_or (pt_not (pt_val (pe_callB (r := rIsi K) call_isi (by rfl) (W.z 59 _ rfl) (by decide +kernel) (pa_cons (pv 0) (pa_cons (pe_bltn (v := .ty "tuple") (by rfl) (W.z 64 _ rfl) (by decide +kernel) rfl) pa_nil))))) (pw_or1 (pt_cmpR op_ne (pe_callB (r := rLenQ K) call_len_seq (by rfl) (W.z 60 _ rfl) PySem.boot_len (pa_cons (pv 0) pa_nil)) (pe_int) (nomark _))))) (pss_one (ps_ret (pe_bl))) pss_nil)
      (pss_cons (ps_asg (pv 0) (pg_tup rfl (pgs_cons (pg_name (i := 2) sc_is_rope.nd rfl (by first | exact Or.inl rfl | exact Or.inr rfl)) (pgs_cons (pg_name (i := 3) sc_is_rope.nd rfl (by first | exact Or.inl rfl | exact Or.inr rfl)) (pgs_cons (pg_name (i := 4) sc_is_rope.nd rfl (by first | exact Or.inl rfl | exact Or.inr rfl)) (pgs_nil))))))
      (pss_cons (ps_if (PW.pt (pw_or (pt_not (pt_val (pe_fn (ok_is_within W) (hr.mono (by decide)) (by rfl) (pa_cons (pv 2) (pa_cons (pe_int) (pa_cons (pv 1) pa_nil)))))) (pw_or1 (pt_not (pt_val (pe_fn (ok_is_within W) (hr.mono (by decide)) (by rfl) (pa_cons (pv 3) (pa_cons (pe_int) (pa_cons (pv 1) pa_nil))))))))) (pss_one (ps_ret (pe_bl))) pss_nil)
      (pss_one (ps_ret ((pe_and (pe_cmpR op_ne (pv 2) (pv 3) (nomark _)) (pe_one (pe_fn (ok_is_whole W) (hr.mono (by decide)) (by rfl) (pa_cons (pv 4) pa_nil)))))))))), fun b Q sb k => ?_⟩
  try dsimp only
  try dsimp only at k
  refine sq_no (et_or (et_not (et_B (ev_cb (ea_cons (ev_var rfl) (ea_cons (ev_ty) ea_nil)) (rc_isi (c := true) (fun _ _ _ => ty_tup) (by decide +kernel))))) fun _ => (et_test (ev_op (ev_cb (ea_cons (ev_var rfl) ea_nil) rc_lenT) (ev_int) rv_ne))) ?s1 ?_
  · rfl
  refine sq_asgT (vs := [2, 3, 4]) (ev_var rfl) (tg_pps3 (tg_name) (tg_name) (tg_name)) ?_
  refine sq_no (et_or (et_not (et_B (ev_call (thing.1, 0, many) (ea_cons (ev_var rfl) (ea_cons (ev_int) (ea_cons (ev_var rfl) ea_nil))) trivial))) fun _ => (et_not (et_B (ev_call (thing.2.1, 0, many) (ea_cons (ev_var rfl) (ea_cons (ev_int) (ea_cons (ev_var rfl) ea_nil))) trivial)))) ?s2 ?_
  · obtain ⟨h1, h2, h3, h4, h5⟩ := hp
    simp [m_is_within, h1, h2, h3, h4]
  refine goR k.fin ((ev_andV (ev_op (ev_var rfl) (ev_var rfl) rv_ne) fun _ => (ev_call thing.2.2 (ea_cons (ev_var rfl) ea_nil) trivial))) ?_
  obtain ⟨h1, h2, h3, h4, h5⟩ := hp
  simp [h5]

end
end Rb

set_option Elab.async false
set_option linter.all false
set_option maxRecDepth 100000
set_option maxHeartbeats 4000000
namespace Rb
open PySem PySem.Spec PyProof.Rows L2
section
variable {Pg : Program} {w : World} {K : PySem.W.Frag} {mg : Str → Option Value} {base : Heap}
abbrev N_look_at_ropes : List PySem.Str := ["ropes", "many", "others", "rope"]
theorem sc_look_at_ropes : FnScope N_look_at_ropes ["ropes", "many", "others"] (defScope s_look_at_ropes) := ⟨rfl, rfl, rfl, by decide +kernel, rfl, by decide +kernel, by decide +kernel⟩
abbrev sp_look_at_ropes (K : PySem.W.Frag) : Sp := SpP (fun a : List Rope × Int => (∀ r ∈ a.1, okR a.2 r) ∧ a.1.length ≤ 60) (fun a => [L Ro a.1, I a.2, I 0]) (fun a => No)
theorem ok_look_at_ropes (W : Wd K mg) : Fn Pg w K mg base 4 "look_at_ropes" (sp_look_at_ropes K) [.int 0] := by
  obtain ⟨fd, F⟩ := W.says.def_ 4 (d := d_look_at_ropes) rfl
  obtain ⟨ds, hds, hbd⟩ := FunD.binds1 (ps := ["ropes", "many", "others"]) F 2 0 (by intro z; cases z) rfl (fun _ _ _ _ _ _ _ us its hu hi => match us, its, hu, hi with | [_, _], [_], _, _ => ⟨_, rfl, rfl⟩)
  refine ⟨_, fd, ["ropes", "many", "others"], ds, fn_ok F sc_look_at_ropes (fun _ => rfl) (by decide) ?_, W.g 4 _ rfl, F.kp, hbd, hds⟩
  rintro cdv A outer s H E hr ⟨ropes, many⟩ hp
  try dsimp only at hp
  refine ⟨_, (pss_cons (ps_if (pt_not (pt_val (pe_callB (r := rIsiT K) call_isiT (by rfl) (W.z 59 _ rfl) (by decide +kernel) (pa_cons (pv 0) (pa_cons (pe_tup (pa_cons (pe_bltn (v := .ty "list") (by rfl) (W.z 63 _ rfl) (by decide +kernel) rfl) (pa_cons (pe_bltn (v := .ty "tuple") (by rfl) (W.z 64 _ rfl) (by decide +kernel) rfl) pa_nil))) pa_nil))))) pss_never pss_nil)
      (pss_cons (ps_for PassesOwn.never rfl (pi_listK (K := K) (pv 0)) (pg_name (i := 3) sc_look_at_ropes.nd rfl (by first | exact Or.inl rfl | exact Or.inr rfl)) (pss_one (ps_if (pt_not (pt_val (pe_fn (ok_is_rope W) (hr.mono (by decide)) (by rfl) (pa_cons (pv 3) (pa_cons (pv 1) pa_nil))))) pss_never pss_nil)))
      (pss_one (ps_if (pt_cmpR op_gt (pe_op op_add (pv 2) (pe_callB (r := rLenQ K) call_len_seq (by rfl) (W.z 60 _ rfl) PySem.boot_len (pa_cons (pv 0) pa_nil))) (pe_glob (v := .int 60) (by rfl) (W.n 76 _ _ rfl).choose_spec ⟨_, rfl⟩) (nomark _)) pss_never pss_nil)))), fun b Q sb k => ?_⟩
  try dsimp only
  try dsimp only at k
  refine sq_no (et_not (et_B (ev_cb (ea_cons (ev_var rfl) (ea_cons (ev_tup (ea_cons (ev_ty) (ea_cons (ev_ty) ea_nil))) ea_nil)) (rc_isiT (ms := ["list", "tuple"]) (c := true) (fun _ _ _ => ty_lst) (kit2 (n := "list") (a := "list") (c := "tuple") (x := true) (y := false) (by decide +kernel) (by decide +kernel)))))) ?s1 ?_
  · rfl
  refine sq_for (vs := [3]) (src_list (ev_var rfl)) (fun i => [some (L Ro ropes), some (I many), some (I 0), none]) (fun i => []) (fun i z => [some (L Ro ropes), some (I many), some (I 0), some (Ro z)]) (.yes rfl (.yes rfl (.yes rfl (.no .nil)))) rfl (fun i z hz => tg_name) (fun b r i z hz => ?_) ?_
  · refine go_no (et_not (et_B (ev_call (z, many) (ea_cons (ev_var rfl) (ea_cons (ev_var rfl) ea_nil)) ?s2))) rfl (nx_pst (.yes rfl (.yes rfl (.yes rfl (.no .nil)))))
    exact hp.1 z (List.mem_of_getElem? hz)
  refine go_no (et_test (ev_op (ev_op (ev_var rfl) (ev_cb (ea_cons (ev_var rfl) ea_nil) rc_lenL) rv_add) (ev_int) rv_gt)) ?s4 (nx_fin k.fin)
  have := hp.2
  simp only [decide_eq_false_iff_not]
  omega

abbrev N_Rig_init : List PySem.Str := ["self", "many", "ropes"]
theorem sc_Rig_init : FnScope N_Rig_init ["self", "many", "ropes"] (defScope s_Rig___init__) := ⟨rfl, rfl, rfl, by decide +kernel, rfl, by decide +kernel, by decide +kernel⟩
abbrev sp_Rig_init (K : PySem.W.Frag) : Sp := SpMk (He.ga K "Rig") (fun a : Int × List Rope => okRs a.1 a.2) (fun a => [I a.1, L Ro a.2]) (fun a => RgO K a.1 a.2)
theorem ok_Rig_init (W : Wd K mg) : FnC Pg w K mg base 5 "Rig" (He.ga K "Rig") (sp_Rig_init K) := by
  obtain ⟨fd, F⟩ := W.says.def_ 57 (d := d_Rig___init__) rfl
  obtain ⟨ds, hds, hbd⟩ := FunD.binds1 (ps := ["self", "many", "ropes"]) F 3 1 (by intro z; cases z) rfl (fun _ _ _ _ _ _ _ us its hu hi => match us, its, hu, hi with | [_, _, _], [_], _, _ => ⟨_, rfl, rfl⟩)
  have hds : Vals [] ds := hds
  cases hds
  refine ⟨_, fd, ["self", "many", "ropes"], fn_ok F sc_Rig_init (fun _ => rfl) (by decide) ?_, W.g 57 _ rfl, W.kRig, hbd⟩
  rintro cdv A outer s H E hr ⟨self, many, ropes⟩ hp
  try dsimp only at hp
  refine ⟨_, (pss_cons (ps_if (pt_not (pt_val (pe_fn (ok_is_within W) (hr.mono (by decide)) (by rfl) (pa_cons (pv 1) (pa_cons (pe_int) (pa_cons (pe_glob (v := .int 8) (by rfl) (W.n 75 _ _ rfl).choose_spec ⟨_, rfl⟩) pa_nil)))))) pss_never pss_nil)
      (pss_cons (ps_expr (pe_fn (ok_look_at_ropes W) (hr.mono (by decide)) (by rfl) (pa_cons (pv 2) (pa_cons (pv 1) pa_nil))))
      (pss_cons (ps_fld (pv 0) (pv 1) rfl)
      (pss_one (ps_fld (pv 0) (pe_tupleOf (by rfl) (W.z 64 _ rfl) (pv 2)) rfl))))), fun b Q sb k => ?_⟩
  try dsimp only
  try dsimp only at k
  refine sq_no (et_not (et_B (ev_call (many, 1, 8) (ea_cons (ev_var rfl) (ea_cons (ev_int) (ea_cons (ev_int) ea_nil))) trivial))) ?s1 ?_
  · have h1 : 1 ≤ many := hp.n1
    have h8 : many ≤ 8 := hp.n8
    simp [m_is_within, h1, h8]
  refine sq_drop (ev_callD (ropes, many) (ea_cons (ev_var rfl) (ea_cons (ev_var rfl) ea_nil)) ⟨hp.all, hp.len⟩) ?_
  refine go_fld0 (ev_var rfl) (ev_var rfl) W.cRig W.nMany ?_
  refine go_fld1 (ev_tupOf (ev_var rfl)) (ev_var rfl) W.cRig W.nRopes (by decide +kernel) (nx_finX () (fun x hx => hx) id rfl k)

abbrev N_Rig_many : List PySem.Str := ["self"]
theorem sc_Rig_many : FnScope N_Rig_many ["self"] (defScope s_Rig_many) := ⟨rfl, rfl, rfl, by decide +kernel, rfl, by decide +kernel, by decide +kernel⟩
abbrev sp_Rig_many (K : PySem.W.Frag) : Sp := SpP (fun a : Int × List Rope => True) (fun a => [Rg K a.1 a.2]) (fun a => I a.1)
theorem ok_Rig_many (W : Wd K mg) : FnM Pg w K mg base 1 (He.ga K "Rig") "many" (sp_Rig_many K) := by
  obtain ⟨fd, F⟩ := W.says.def_ 58 (d := d_Rig_many) rfl
  refine ⟨_, fd, ["self"], fn_ok F sc_Rig_many (fun _ => rfl) (by decide) ?_, He.meth_ok (W.says.fact 86 (f := .meth "Rig" "many") rfl), FunD.bindsN F (fun _ _ _ _ _ _ us hl => match us, hl with | [_], _ => rfl)⟩
  rintro cdv A outer s H E hr ⟨n, rs⟩ hp
  try dsimp only at hp
  refine ⟨_, (pss_one (ps_ret (pe_fld (pv 0) rfl))), fun b Q sb k => ?_⟩
  try dsimp only
  try dsimp only at k
  exact goR k.fin (ev_fld1 (ev_var rfl) W.cRig W.nMany) rfl

abbrev N_Rig_ropes : List PySem.Str := ["self"]
theorem sc_Rig_ropes : FnScope N_Rig_ropes ["self"] (defScope s_Rig_ropes) := ⟨rfl, rfl, rfl, by decide +kernel, rfl, by decide +kernel, by decide +kernel⟩
abbrev sp_Rig_ropes (K : PySem.W.Frag) : Sp := SpP (fun a : Int × List Rope => True) (fun a => [Rg K a.1 a.2]) (fun a => L Ro a.2)
theorem ok_Rig_ropes (W : Wd K mg) : FnM Pg w K mg base 1 (He.ga K "Rig") "ropes" (sp_Rig_ropes K) := by
  obtain ⟨fd, F⟩ := W.says.def_ 59 (d := d_Rig_ropes) rfl
  refine ⟨_, fd, ["self"], fn_ok F sc_Rig_ropes (fun _ => rfl) (by decide) ?_, He.meth_ok (W.says.fact 87 (f := .meth "Rig" "ropes") rfl), FunD.bindsN F (fun _ _ _ _ _ _ us hl => match us, hl with | [_], _ => rfl)⟩
  rintro cdv A outer s H E hr ⟨n, rs⟩ hp
  try dsimp only at hp
  refine ⟨_, (pss_one (ps_ret (pe_callTy (r := rListQ K) call_list_of (by rfl) (W.z 63 _ rfl) (by decide +kernel) (pa_cons (pe_fld (pv 0) rfl) pa_nil)))), fun b Q sb k => ?_⟩
  try dsimp only
  try dsimp only at k
  exact goR k.fin (ev_cb (ea_cons (ev_fld2 (ev_var rfl) W.cRig W.nRopes (by decide +kernel)) ea_nil) rc_listT) rfl

abbrev N_Rig_rope : List PySem.Str := ["self", "number"]
theorem sc_Rig_rope : FnScope N_Rig_rope ["self", "number"] (defScope s_Rig_rope) := ⟨rfl, rfl, rfl, by decide +kernel, rfl, by decide +kernel, by decide +kernel⟩
abbrev sp_Rig_rope (K : PySem.W.Frag) : Sp := SpP (fun a : Int × List Rope × Int × Rope => atI a.2.1 a.2.2.1 = some a.2.2.2 ∧ 0 ≤ a.2.2.1) (fun a => [Rg K a.1 a.2.1, I a.2.2.1]) (fun a => Ro a.2.2.2)
theorem ok_Rig_rope (W : Wd K mg) : FnM Pg w K mg base 3 (He.ga K "Rig") "rope" (sp_Rig_rope K) := by
  obtain ⟨fd, F⟩ := W.says.def_ 60 (d := d_Rig_rope) rfl
  refine ⟨_, fd, ["self", "number"], fn_ok F sc_Rig_rope (fun _ => rfl) (by decide) ?_, He.meth_ok (W.says.fact 88 (f := .meth "Rig" "rope") rfl), FunD.bindsN F (fun _ _ _ _ _ _ us hl => match us, hl with | [_, _], _ => rfl)⟩
  rintro cdv A outer s H E hr ⟨n, rs, number, r⟩ hp
  try dsimp only at hp
  refine ⟨_, (pss_cons (ps_if (pt_not (pt_val (pe_fn (ok_is_within W) (hr.mono (by decide)) (by rfl) (pa_cons (pv 1) (pa_cons (pe_int) (pa_cons (pe_op op_sub (pe_callB (r := rLenQ K) call_len_seq (by rfl) (W.z 60 _ rfl) PySem.boot_len (pa_cons (pe_fld (pv 0) rfl) pa_nil)) (pe_int)) pa_nil)))))) pss_never pss_nil)
      (pss_one (ps_ret (pe_ix (r := rIxT K) ix_tup (pe_fld (pv 0) rfl) (pv 1) (fun _ _ => rfl))))), fun b Q sb k => ?_⟩
  try dsimp only
  try dsimp only at k
  refine sq_no (et_not (et_B (ev_call (number, 0, ((rs.length : Int) - 1)) (ea_cons (ev_var rfl) (ea_cons (ev_int) (ea_cons (ev_op (ev_cb (ea_cons (ev_fld2 (ev_var rfl) W.cRig W.nRopes (by decide +kernel)) ea_nil) rc_lenT) (ev_int) rv_sub) ea_nil))) trivial))) ?s1 ?_
  · have h := atI_lt hp.1
    simp only [m_is_within]
    simp
    have := hp.2
    omega
  exact goR k.fin (ev_op (ev_fld2 (ev_var rfl) W.cRig W.nRopes (by decide +kernel)) (ev_var rfl) (rv_ixT hp.1)) rfl

abbrev N_Rig_turned : List PySem.Str := ["self", "upper", "lower", "most"]
theorem sc_Rig_turned : FnScope N_Rig_turned ["self"] (defScope s_Rig_turned) := ⟨rfl, rfl, rfl, by decide +kernel, rfl, by decide +kernel, by decide +kernel⟩
abbrev sp_Rig_turned (K : PySem.W.Frag) : Sp := SpP (fun a : Int × List Rope => okRs a.1 a.2) (fun a => [Rg K a.1 a.2]) (fun a => Rg K a.1 (turned a.2))
theorem ok_Rig_turned (W : Wd K mg) : FnM Pg w K mg base 7 (He.ga K "Rig") "turned" (sp_Rig_turned K) := by
  obtain ⟨fd, F⟩ := W.says.def_ 61 (d := d_Rig_turned) rfl
  refine ⟨_, fd, ["self"], fn_ok F sc_Rig_turned (fun _ => rfl) (by decide) ?_, He.meth_ok (W.says.fact 89 (f := .meth "Rig" "turned") rfl), FunD.bindsN F (fun _ _ _ _ _ _ us hl => match us, hl with | [_], _ => rfl)⟩
  rintro cdv A outer s H E hr ⟨n, rs⟩ hp
  try dsimp only at hp
  refine ⟨_, (pss_one (ps_ret (pe_mk (ok_Rig_init W) (hr.mono (by decide)) (by rfl) (pa_cons (pe_fld (pv 0) rfl) (pa_cons (pe_lc (own := [("upper", 1), ("lower", 2), ("most", 3)]) (g := gTup K 3 (gCons (gName 1) (gCons (gName 2) (gCons (gName 3) (gNil))))) rfl sc_Rig_turned.nd (pi_tupK (K := K) (pe_fld (pv 0) rfl)) (blkOk_by (own := [("upper", 1), ("lower", 2), ("most", 3)]) (N := N_Rig_turned) (sc := defScope s_Rig_turned) (by decide +kernel)) (fun _ _ _ _ _ => pg_tup rfl (pgs_cons (pg_name (i := 1) sc_Rig_turned.nd rfl (by first | exact Or.inl rfl | exact Or.inr rfl)) (pgs_cons (pg_name (i := 2) sc_Rig_turned.nd rfl (by first | exact Or.inl rfl | exact Or.inr rfl)) (pgs_cons (pg_name (i := 3) sc_Rig_turned.nd rfl (by first | exact Or.inl rfl | exact Or.inr rfl)) (pgs_nil))))) (fun _ _ _ _ _ => pts_nil) (fun _ _ _ _ _ => (pe_tup (pa_cons (pv 2) (pa_cons (pv 1) (pa_cons (pv 3) pa_nil)))))) pa_nil))))), fun b Q sb k => ?_⟩
  try dsimp only
  try dsimp only at k
  refine goR k.fin (ev_make (n, turned rs) (ea_cons (ev_fld1 (ev_var rfl) W.cRig W.nMany) (ea_cons (ev_lcA Ro turn (fun z => [some (Rg K n rs), some (I z.1), some (I z.2.1), some (I z.2.2)]) (src_tup (ev_fld2 (ev_var rfl) W.cRig W.nRopes (by decide +kernel))) (fun z _ => tg_pps3 (tg_name) (tg_name) (tg_name)) (fun z hz O => (ev_tup (ea_cons (ev_var rfl) (ea_cons (ev_var rfl) (ea_cons (ev_var rfl) ea_nil))))) ?s1) ea_nil)) hp.turned) ?_
  · exact Nat.lt_of_le_of_lt hp.len (by decide)
  · rfl

abbrev N_Rig_len : List PySem.Str := ["self"]
theorem sc_Rig_len : FnScope N_Rig_len ["self"] (defScope s_Rig___len__) := ⟨rfl, rfl, rfl, by decide +kernel, rfl, by decide +kernel, by decide +kernel⟩
abbrev sp_Rig_len (K : PySem.W.Frag) : Sp := SpP (fun a : Int × List Rope => True) (fun a => [Rg K a.1 a.2]) (fun a => I a.2.length)
theorem ok_Rig_len (W : Wd K mg) : FnM Pg w K mg base 1 (He.ga K "Rig") "__len__" (sp_Rig_len K) := by
  obtain ⟨fd, F⟩ := W.says.def_ 62 (d := d_Rig___len__) rfl
  refine ⟨_, fd, ["self"], fn_ok F sc_Rig_len (fun _ => rfl) (by decide) ?_, He.meth_ok (W.says.fact 90 (f := .meth "Rig" "__len__") rfl), FunD.bindsN F (fun _ _ _ _ _ _ us hl => match us, hl with | [_], _ => rfl)⟩
  rintro cdv A outer s H E hr ⟨n, rs⟩ hp
  try dsimp only at hp
  refine ⟨_, (pss_one (ps_ret (pe_callB (r := rLenQ K) call_len_seq (by rfl) (W.z 60 _ rfl) PySem.boot_len (pa_cons (pe_fld (pv 0) rfl) pa_nil)))), fun b Q sb k => ?_⟩
  try dsimp only
  try dsimp only at k
  exact goR k.fin (ev_cb (ea_cons (ev_fld2 (ev_var rfl) W.cRig W.nRopes (by decide +kernel)) ea_nil) rc_lenT) rfl

end
end Rb

set_option Elab.async false
set_option linter.all false
set_option maxRecDepth 100000
set_option maxHeartbeats 4000000
namespace Rb
open PySem PySem.Spec PyProof.Rows L2
section
variable {Pg : Program} {w : World} {K : PySem.W.Frag} {mg : Str → Option Value} {base : Heap}
abbrev N_is_chain : List PySem.Str := ["rig", "thing", "ropes", "number", "one", "other"]
theorem sc_is_chain : FnScope N_is_chain ["rig", "thing"] (defScope s_is_chain) := ⟨rfl, rfl, rfl, by decide +kernel, rfl, by decide +kernel, by decide +kernel⟩
abbrev sp_is_chain (K : PySem.W.Frag) : Sp := SpP (fun a : Int × List Rope × List Int => okRs a.1 a.2.1 ∧ okC a.2.1 a.2.2) (fun a => [Rg K a.1 a.2.1, L I a.2.2]) (fun a => Bo true)
theorem ok_is_chain (W : Wd K mg) : Fn Pg w K mg base 4 "is_chain" (sp_is_chain K) [] := by
  obtain ⟨fd, F⟩ := W.says.def_ 5 (d := d_is_chain) rfl
  refine ⟨_, fd, ["rig", "thing"], [], fn_ok F sc_is_chain (fun _ => rfl) (by decide) ?_, W.g 5 _ rfl, F.kp, FunD.bindsN F (fun _ _ _ _ _ _ us hl => match us, hl with | [_, _], _ => rfl), .nil⟩
  rintro cdv A outer s H E hr ⟨n, rs, thing⟩ hp
  try dsimp only at hp
  have hu64 : (cxOf CX0 Pg w K mg base N_is_chain "is_chain" (defScope s_is_chain) (He.fAd K d_is_chain.at_) cdv A outer s H E).nox.A.units + 64 < cLine := hu64_of hr
  refine ⟨_, (pss_cons (ps_if (PW.pt (pw_or (pt_not (pt_val (pe_callB (r := rIsi K) call_isi (by rfl) (W.z 59 _ rfl) (by decide +kernel) (pa_cons (pv 1) (pa_cons (pe_bltn (v := .ty "list") (by rfl) (W.z 63 _ rfl) (by decide +kernel) rfl) pa_nil))))) (pw_or1 (pt_cmpR (r := rEqD K) (op_eqD hu64) (pv 1) (pe_lst pa_nil) (nomark _))))) (pss_one (ps_ret (pe_bl))) pss_nil)
      (pss_cons (ps_if (pt_not (pt_val (pe_callB (r := rAll K) (cr_all rfl) (by rfl) (W.z 61 _ rfl) (by decide +kernel) (pa_cons (pe_lc (own := [("number", 3)]) rfl sc_is_chain.nd (pi_listK (K := K) (pv 1)) (blkOk_by (own := [("number", 3)]) (N := N_is_chain) (sc := defScope s_is_chain) (by decide +kernel)) (fun _ _ _ _ _ => pg_name (i := 3) sc_is_chain.nd rfl (by first | exact Or.inl rfl | exact Or.inr rfl)) (fun _ _ _ _ _ => pts_nil) (fun _ _ _ _ _ => (pe_fn (ok_is_within W) (hr.mono (by decide)) (by rfl) (pa_cons (pv 3) (pa_cons (pe_int) (pa_cons (pe_op op_sub (pe_lenOwn (ok_Rig_len W) (hr.mono (by decide)) (by rfl) (W.z 60 _ rfl) (pv 0)) (pe_int)) pa_nil)))))) pa_nil)))) (pss_one (ps_ret (pe_bl))) pss_nil)
      (pss_cons (ps_setLc (i := 2) (own := [("number", 3)]) rfl sc_is_chain.nd rfl rfl (sw_true rfl rfl rfl (by decide +kernel)) (pi_listK (K := K) (pv 1)) (blkOk_by (own := [("number", 3)]) (N := N_is_chain) (sc := defScope s_is_chain) (by decide +kernel)) (fun _ _ _ _ _ => pg_name (i := 3) sc_is_chain.nd rfl (by first | exact Or.inl rfl | exact Or.inr rfl)) (fun _ _ _ _ _ => pts_nil) (fun _ _ _ _ _ => (pe_mt (ok_Rig_rope W) (hr.mono (by decide)) W.cRig (pv 0) (pa_cons (pv 3) pa_nil))))
      (pss_one (ps_ret (pe_callB (r := rAll K) (cr_all rfl) (by rfl) (W.z 61 _ rfl) (by decide +kernel) (pa_cons (pe_lc (own := [("one", 4), ("other", 5)]) (g := gTup K 2 (gCons (gName 4) (gCons (gName 5) (gNil)))) rfl sc_is_chain.nd (pi_zip (by rfl) (W.z 70 _ rfl) (pa_cons (pv 2) (pa_cons (pe_slice (r := rSlL K) sl_list (pv 2) (po_some (pe_int)) po_none) pa_nil))) (blkOk_by (own := [("one", 4), ("other", 5)]) (N := N_is_chain) (sc := defScope s_is_chain) (by decide +kernel)) (fun _ _ _ _ _ => pg_tup rfl (pgs_cons (pg_name (i := 4) sc_is_chain.nd rfl (by first | exact Or.inl rfl | exact Or.inr rfl)) (pgs_cons (pg_name (i := 5) sc_is_chain.nd rfl (by first | exact Or.inl rfl | exact Or.inr rfl)) (pgs_nil)))) (fun _ _ _ _ _ => pts_nil) (fun _ _ _ _ _ => (pe_cmpR op_eq (pe_ix (r := rIxT K) ix_tup (pv 4) (pe_int) (fun _ _ => rfl)) (pe_ix (r := rIxT K) ix_tup (pv 5) (pe_int) (fun _ _ => rfl)) (nomark _)))) pa_nil))))))), fun b Q sb k => ?_⟩
  try dsimp only
  try dsimp only at k
  refine sq_no (et_or (et_not (et_B (ev_cb (ea_cons (ev_var rfl) (ea_cons (ev_ty) ea_nil)) (rc_isi (c := true) (fun _ _ _ => ty_lst) (by decide +kernel))))) fun _ => (et_test (ev_op (ev_var rfl) (ev_lst I [] ea_nil) rv_eqL))) ?s1 ?_
  · simp [hp.2.ne]
  refine sq_no (et_not (et_B (ev_cb (ea_cons (ev_lcA Bo (fun z => (m_is_within z 0 ((rs.length : Int) - 1))) _ (src_list (ev_var rfl)) (fun z _ => tg_name) (fun z hz O => (ev_call (z, 0, ((rs.length : Int) - 1)) (ea_cons (ev_var rfl) (ea_cons (ev_int) (ea_cons (ev_op (ev_cb (ea_cons (ev_var rfl) ea_nil) (rc_lenI (n, rs) trivial rfl (Int.natCast_nonneg _) (by have h := hp.1.len; show (rs.length : Int) < _; omega))) (ev_int) rv_sub) ea_nil))) trivial)) (Nat.lt_of_le_of_lt hp.2.len (by decide))) ea_nil) rc_all))) ?w1 ?_
  case w1 =>
    simp only [Bool.not_eq_false', List.all_map, List.all_eq_true]
    intro z hz
    obtain ⟨h0, h1⟩ := hp.2.rng z hz
    simp [m_is_within, h0]
    omega
  refine sq_asg (ev_lcA Ro (rp rs) _ (src_list (ev_var rfl)) (fun z _ => tg_name) (fun z hz O => (ev_meth (n, rs, z, rp rs z) (ev_var rfl) (by decide +kernel) (by decide +kernel) (ea_cons (ev_var rfl) ea_nil) ⟨rp_at (hp.2.rng z hz).1 (hp.2.rng z hz).2, (hp.2.rng z hz).1⟩)) (Nat.lt_of_le_of_lt hp.2.len (by decide))) ?_
  refine goR k.fin (ev_cb (ea_cons (ev_lcA Bo (fun z => decide (z.1.2.1 = z.2.1)) _ (src_zip (ea_cons (ev_var rfl) (ea_cons (ev_sl1 (ev_var rfl)) ea_nil))) (fun z _ => tg_pps (tg_name) (tg_name)) (fun z hz O => (ev_op (ev_op (ev_var rfl) (ev_int) (rv_ixT rfl)) (ev_op (ev_var rfl) (ev_int) (rv_ixT rfl)) rv_eq)) ?w1) ea_nil) rc_all) ?w2
  case w1 =>
    have := hp.2.len
    rw [List.length_zip, List.length_map]
    omega
  case w2 => rw [chd_zip, hp.2.ch]

abbrev N_look_at_chain : List PySem.Str := ["rig", "chain"]
theorem sc_look_at_chain : FnScope N_look_at_chain ["rig", "chain"] (defScope s_look_at_chain) := ⟨rfl, rfl, rfl, by decide +kernel, rfl, by decide +kernel, by decide +kernel⟩
abbrev sp_look_at_chain (K : PySem.W.Frag) : Sp := SpP (fun a : Int × List Rope × List Int => okRs a.1 a.2.1 ∧ okC a.2.1 a.2.2) (fun a => [Rg K a.1 a.2.1, L I a.2.2]) (fun a => No)
theorem ok_look_at_chain (W : Wd K mg) : Fn Pg w K mg base 5 "look_at_chain" (sp_look_at_chain K) [] := by
  obtain ⟨fd, F⟩ := W.says.def_ 6 (d := d_look_at_chain) rfl
  refine ⟨_, fd, ["rig", "chain"], [], fn_ok F sc_look_at_chain (fun _ => rfl) (by decide) ?_, W.g 6 _ rfl, F.kp, FunD.bindsN F (fun _ _ _ _ _ _ us hl => match us, hl with | [_, _], _ => rfl), .nil⟩
  rintro cdv A outer s H E hr ⟨n, rs, chain⟩ hp
  try dsimp only at hp
  refine ⟨_, (pss_one (ps_if (pt_not (pt_val (pe_fn (ok_is_chain W) (hr.mono (by decide)) (by rfl) (pa_cons (pv 0) (pa_cons (pv 1) pa_nil))))) pss_never pss_nil)), fun b Q sb k => ?_⟩
  try dsimp only
  try dsimp only at k
  exact go_no (et_not (et_B (ev_call (n, rs, chain) (ea_cons (ev_var rfl) (ea_cons (ev_var rfl) ea_nil)) hp))) rfl (nx_fin k.fin)

abbrev N_knots_of : List PySem.Str := ["rig", "chain", "first", "others", "number", "rope"]
theorem sc_knots_of : FnScope N_knots_of ["rig", "chain"] (defScope s_knots_of) := ⟨rfl, rfl, rfl, by decide +kernel, rfl, by decide +kernel, by decide +kernel⟩
abbrev sp_knots_of (K : PySem.W.Frag) : Sp := SpP (fun a : Int × List Rope × List Int => okRs a.1 a.2.1 ∧ okC a.2.1 a.2.2) (fun a => [Rg K a.1 a.2.1, L I a.2.2]) (fun a => L I (kn a.2.1 a.2.2))
theorem ok_knots_of (W : Wd K mg) : Fn Pg w K mg base 6 "knots_of" (sp_knots_of K) [] := by
  obtain ⟨fd, F⟩ := W.says.def_ 7 (d := d_knots_of) rfl
  refine ⟨_, fd, ["rig", "chain"], [], fn_ok F sc_knots_of (fun _ => rfl) (by decide) ?_, W.g 7 _ rfl, F.kp, FunD.bindsN F (fun _ _ _ _ _ _ us hl => match us, hl with | [_, _], _ => rfl), .nil⟩
  rintro cdv A outer s H E hr ⟨n, rs, chain⟩ hp
  try dsimp only at hp
  refine ⟨_, (pss_cons (ps_expr (pe_fn (ok_look_at_chain W) (hr.mono (by decide)) (by rfl) (pa_cons (pv 0) (pa_cons (pv 1) pa_nil))))
      (pss_cons (ps_asg (pe_lc (own := [("number", 4)]) rfl sc_knots_of.nd (pi_listK (K := K) (pv 1)) (blkOk_by (own := [("number", 4)]) (N := N_knots_of) (sc := defScope s_knots_of) (by decide +kernel)) (fun _ _ _ _ _ => pg_name (i := 4) sc_knots_of.nd rfl (by first | exact Or.inl rfl | exact Or.inr rfl)) (fun _ _ _ _ _ => pts_nil) (fun _ _ _ _ _ => (pe_mt (ok_Rig_rope W) (hr.mono (by decide)) W.cRig (pv 0) (pa_cons (pv 4) pa_nil)))) (pg_star rfl (pg_name (i := 2) sc_knots_of.nd rfl (by first | exact Or.inl rfl | exact Or.inr rfl)) (pg_name (i := 3) sc_knots_of.nd rfl (by first | exact Or.inl rfl | exact Or.inr rfl))))
      (pss_one (ps_ret (pe_op op_cat (pe_lst (pa_cons (pe_ix (r := rIxT K) ix_tup (pv 2) (pe_int) (fun _ _ => rfl)) (pa_cons (pe_ix (r := rIxT K) ix_tup (pv 2) (pe_int) (fun _ _ => rfl)) pa_nil))) (pe_lc (own := [("rope", 5)]) rfl sc_knots_of.nd (pi_listK (K := K) (pv 3)) (blkOk_by (own := [("rope", 5)]) (N := N_knots_of) (sc := defScope s_knots_of) (by decide +kernel)) (fun _ _ _ _ _ => pg_name (i := 5) sc_knots_of.nd rfl (by first | exact Or.inl rfl | exact Or.inr rfl)) (fun _ _ _ _ _ => pts_nil) (fun _ _ _ _ _ => (pe_ix (r := rIxT K) ix_tup (pv 5) (pe_int) (fun _ _ => rfl))))))))), fun b Q sb k => ?_⟩
  try dsimp only
  try dsimp only at k
  refine sq_drop (ev_call (n, rs, chain) (ea_cons (ev_var rfl) (ea_cons (ev_var rfl) ea_nil)) hp) ?_
  obtain ⟨i, r, rfl⟩ : ∃ i r, chain = i :: r := by
    cases chain with
    | nil => exact absurd rfl hp.2.ne
    | cons i r => exact ⟨i, r, rfl⟩
  refine sq_star (f := Ro) (x := rp rs i) (xs := r.map (rp rs)) (ev_lcA Ro (rp rs) _ (src_list (ev_var rfl)) (fun z _ => tg_name) (fun z hz O => (ev_meth (n, rs, z, rp rs z) (ev_var rfl) (by decide +kernel) (by decide +kernel) (ea_cons (ev_var rfl) ea_nil) ⟨rp_at (hp.2.rng z hz).1 (hp.2.rng z hz).2, (hp.2.rng z hz).1⟩)) (Nat.lt_of_le_of_lt hp.2.len (by decide))) ?_ ?_
  · have := hp.2.len
    simp at this ⊢
    omega
  refine goR k.fin (ev_op (ev_lst I [_, _] (ea_cons (ev_op (ev_var rfl) (ev_int) (rv_ixT rfl)) (ea_cons (ev_op (ev_var rfl) (ev_int) (rv_ixT rfl)) ea_nil))) (ev_lcA I (fun z => z.2.1) _ (src_list (ev_var rfl)) (fun z _ => tg_name) (fun z hz O => (ev_op (ev_var rfl) (ev_int) (rv_ixT rfl))) ?w1) (rv_cat ?w2)) ?w3
  case w1 =>
    have := hp.2.len
    simp at this ⊢
    omega
  case w2 =>
    have := hp.2.len
    simp at this ⊢
    omega
  case w3 => simp [kn, Function.comp_def]

abbrev N_sum_of : List PySem.Str := ["rig", "chain", "number"]
theorem sc_sum_of : FnScope N_sum_of ["rig", "chain"] (defScope s_sum_of) := ⟨rfl, rfl, rfl, by decide +kernel, rfl, by decide +kernel, by decide +kernel⟩
abbrev sp_sum_of (K : PySem.W.Frag) : Sp := SpP (fun a : Int × List Rope × List Int => okRs a.1 a.2.1 ∧ okC a.2.1 a.2.2) (fun a => [Rg K a.1 a.2.1, L I a.2.2]) (fun a => I (sm a.2.1 a.2.2))
theorem ok_sum_of (W : Wd K mg) : Fn Pg w K mg base 6 "sum_of" (sp_sum_of K) [] := by
  obtain ⟨fd, F⟩ := W.says.def_ 8 (d := d_sum_of) rfl
  refine ⟨_, fd, ["rig", "chain"], [], fn_ok F sc_sum_of (fun _ => rfl) (by decide) ?_, W.g 8 _ rfl, F.kp, FunD.bindsN F (fun _ _ _ _ _ _ us hl => match us, hl with | [_, _], _ => rfl), .nil⟩
  rintro cdv A outer s H E hr ⟨n, rs, chain⟩ hp
  try dsimp only at hp
  refine ⟨_, (pss_cons (ps_expr (pe_fn (ok_look_at_chain W) (hr.mono (by decide)) (by rfl) (pa_cons (pv 0) (pa_cons (pv 1) pa_nil))))
      (pss_one (ps_ret (pe_callB (r := rSum K) (cr_sum rfl) (by rfl) (W.z 73 _ rfl) (by decide +kernel) (pa_cons (pe_lc (own := [("number", 2)]) rfl sc_sum_of.nd (pi_listK (K := K) (pv 1)) (blkOk_by (own := [("number", 2)]) (N := N_sum_of) (sc := defScope s_sum_of) (by decide +kernel)) (fun _ _ _ _ _ => pg_name (i := 2) sc_sum_of.nd rfl (by first | exact Or.inl rfl | exact Or.inr rfl)) (fun _ _ _ _ _ => pts_nil) (fun _ _ _ _ _ => (pe_ix (r := rIxT K) ix_tup (pe_mt (ok_Rig_rope W) (hr.mono (by decide)) W.cRig (pv 0) (pa_cons (pv 2) pa_nil)) (pe_int) (fun _ _ => rfl)))) pa_nil))))), fun b Q sb k => ?_⟩
  try dsimp only
  try dsimp only at k
  refine sq_drop (ev_call (n, rs, chain) (ea_cons (ev_var rfl) (ea_cons (ev_var rfl) ea_nil)) hp) ?_
  exact goR k.fin (ev_cb (ea_cons (ev_lcA I (fun z => (rp rs z).2.2) _ (src_list (ev_var rfl)) (fun z _ => tg_name) (fun z hz O => (ev_op (ev_meth (n, rs, z, rp rs z) (ev_var rfl) (by decide +kernel) (by decide +kernel) (ea_cons (ev_var rfl) ea_nil) ⟨rp_at (hp.2.rng z hz).1 (hp.2.rng z hz).2, (hp.2.rng z hz).1⟩) (ev_int) (rv_ixT rfl))) (Nat.lt_of_le_of_lt hp.2.len (by decide))) ea_nil) rc_sum) rfl

abbrev N_leads : List PySem.Str := ["rig", "thing", "upper", "lower", "knots"]
theorem sc_leads : FnScope N_leads ["rig", "thing", "upper", "lower"] (defScope s_leads) := ⟨rfl, rfl, rfl, by decide +kernel, rfl, by decide +kernel, by decide +kernel⟩
abbrev sp_leads (K : PySem.W.Frag) : Sp := SpP (fun a : Int × List Rope × List Int × Int × Int => okRs a.1 a.2.1 ∧ okC a.2.1 a.2.2.1) (fun a => [Rg K a.1 a.2.1, L I a.2.2.1, I a.2.2.2.1, I a.2.2.2.2]) (fun a => Bo (ld a.2.1 a.2.2.1 a.2.2.2.1 a.2.2.2.2))
theorem ok_leads (W : Wd K mg) : Fn Pg w K mg base 7 "leads" (sp_leads K) [] := by
  obtain ⟨fd, F⟩ := W.says.def_ 9 (d := d_leads) rfl
  refine ⟨_, fd, ["rig", "thing", "upper", "lower"], [], fn_ok F sc_leads (fun _ => rfl) (by decide) ?_, W.g 9 _ rfl, F.kp, FunD.bindsN F (fun _ _ _ _ _ _ us hl => match us, hl with | [_, _, _, _], _ => rfl), .nil⟩
  rintro cdv A outer s H E hr ⟨n, rs, thing, upper, lower⟩ hp
  try dsimp only at hp
  refine ⟨_, (pss_cons (ps_if (pt_not (pt_val (pe_fn (ok_is_chain W) (hr.mono (by decide)) (by rfl) (pa_cons (pv 0) (pa_cons (pv 1) pa_nil))))) (pss_one (ps_ret (pe_bl))) pss_nil)
      (pss_cons (ps_set (i := 4) sc_leads.nd rfl (by first | exact Or.inl rfl | exact Or.inr rfl) (pe_fn (ok_knots_of W) (hr.mono (by decide)) (by rfl) (pa_cons (pv 0) (pa_cons (pv 1) pa_nil))))
      (pss_one (ps_ret ((pe_and (pe_cmpR op_eq (pe_ix (r := rIxL K) ix_list (pv 4) (pe_int) (fun _ _ => rfl)) (pv 2) (nomark _)) (pe_one (pe_cmpR op_eq (pe_ix (r := rIxL K) ix_list (pv 4) (pe_un un_neg (pe_int)) (fun _ _ => rfl)) (pv 3) (nomark _))))))))), fun b Q sb k => ?_⟩
  try dsimp only
  try dsimp only at k
  refine sq_no (et_not (et_B (ev_call (n, rs, thing) (ea_cons (ev_var rfl) (ea_cons (ev_var rfl) ea_nil)) hp))) rfl ?_
  refine sq_asg (ev_call (n, rs, thing) (ea_cons (ev_var rfl) (ea_cons (ev_var rfl) ea_nil)) hp) ?_
  refine goR k.fin ((ev_andV (ev_op (ev_op (ev_var rfl) (ev_int) (rv_ixL ?w1)) (ev_var rfl) rv_eq) fun _ => (ev_op (ev_op (ev_var rfl) (ev_neg (ev_int)) (rv_ixL ?w2)) (ev_var rfl) rv_eq))) rfl
  · exact atI_head (kn_ne hp.2.ne)
  · exact atI_lastD (kn_ne hp.2.ne)

abbrev N_is_heights : List PySem.Str := ["rig", "thing"]
theorem sc_is_heights : FnScope N_is_heights ["rig", "thing"] (defScope s_is_heights) := ⟨rfl, rfl, rfl, by decide +kernel, rfl, by decide +kernel, by decide +kernel⟩
abbrev sp_is_heights (K : PySem.W.Frag) : Sp := SpP (fun a : Int × List Rope × List Int => a.2.2.length ≤ 1000) (fun a => [Rg K a.1 a.2.1, L I a.2.2]) (fun a => Bo (decide ((a.2.2.length : Int) = a.1)))
theorem ok_is_heights (W : Wd K mg) : Fn Pg w K mg base 3 "is_heights" (sp_is_heights K) [] := by
  obtain ⟨fd, F⟩ := W.says.def_ 10 (d := d_is_heights) rfl
  refine ⟨_, fd, ["rig", "thing"], [], fn_ok F sc_is_heights (fun _ => rfl) (by decide) ?_, W.g 10 _ rfl, F.kp, FunD.bindsN F (fun _ _ _ _ _ _ us hl => match us, hl with | [_, _], _ => rfl), .nil⟩
  rintro cdv A outer s H E hr ⟨n, rs, thing⟩ hp
  try dsimp only at hp
  refine ⟨_, (pss_one (ps_ret (pe_fn (ok_are_wholes W) (hr.mono (by decide)) (by rfl) (pa_cons (pv 1) (pa_cons (pe_mt0 (ok_Rig_many W) (hr.mono (by decide)) W.cRig (pv 0)) pa_nil))))), fun b Q sb k => ?_⟩
  try dsimp only
  try dsimp only at k
  exact goR k.fin (ev_call (thing, n) (ea_cons (ev_var rfl) (ea_cons (ev_meth (n, rs) (ev_var rfl) (by decide +kernel) (by decide +kernel) ea_nil trivial) ea_nil)) hp) rfl

abbrev N_look_at_heights : List PySem.Str := ["rig", "heights"]
theorem sc_look_at_heights : FnScope N_look_at_heights ["rig", "heights"] (defScope s_look_at_heights) := ⟨rfl, rfl, rfl, by decide +kernel, rfl, by decide +kernel, by decide +kernel⟩
abbrev sp_look_at_heights (K : PySem.W.Frag) : Sp := SpP (fun a : Int × List Rope × List Int => okRs a.1 a.2.1 ∧ (a.2.2.length : Int) = a.1) (fun a => [Rg K a.1 a.2.1, L I a.2.2]) (fun a => No)
theorem ok_look_at_heights (W : Wd K mg) : Fn Pg w K mg base 4 "look_at_heights" (sp_look_at_heights K) [] := by
  obtain ⟨fd, F⟩ := W.says.def_ 11 (d := d_look_at_heights) rfl
  refine ⟨_, fd, ["rig", "heights"], [], fn_ok F sc_look_at_heights (fun _ => rfl) (by decide) ?_, W.g 11 _ rfl, F.kp, FunD.bindsN F (fun _ _ _ _ _ _ us hl => match us, hl with | [_, _], _ => rfl), .nil⟩
  rintro cdv A outer s H E hr ⟨n, rs, heights⟩ hp
  try dsimp only at hp
  refine ⟨_, (pss_one (ps_if (pt_not (pt_val (pe_fn (ok_is_heights W) (hr.mono (by decide)) (by rfl) (pa_cons (pv 0) (pa_cons (pv 1) pa_nil))))) pss_never pss_nil)), fun b Q sb k => ?_⟩
  try dsimp only
  try dsimp only at k
  refine go_no (et_not (et_B (ev_call (n, rs, heights) (ea_cons (ev_var rfl) (ea_cons (ev_var rfl) ea_nil)) ?w1))) ?w2 (nx_fin k.fin)
  case w1 =>
    have h1 := hp.2
    have h2 := hp.1.n8
    show heights.length ≤ 1000
    omega
  case w2 => simp [hp.2]

abbrev N_room_by : List PySem.Str := ["rope", "heights", "high", "upper", "lower", "most"]
theorem sc_room_by : FnScope N_room_by ["rope", "heights"] (defScope s_room_by) := ⟨rfl, rfl, rfl, by decide +kernel, rfl, by decide +kernel, by decide +kernel⟩
abbrev sp_room_by (K : PySem.W.Frag) : Sp := SpP (fun a : Rope × List Int => okR a.2.length a.1 ∧ a.2.length ≤ 1000) (fun a => [Ro a.1, L I a.2]) (fun a => I (room a.1 a.2))
theorem ok_room_by (W : Wd K mg) : Fn Pg w K mg base 1 "room_by" (sp_room_by K) [] := by
  obtain ⟨fd, F⟩ := W.says.def_ 12 (d := d_room_by) rfl
  refine ⟨_, fd, ["rope", "heights"], [], fn_ok F sc_room_by (fun _ => rfl) (by decide) ?_, W.g 12 _ rfl, F.kp, FunD.bindsN F (fun _ _ _ _ _ _ us hl => match us, hl with | [_, _], _ => rfl), .nil⟩
  rintro cdv A outer s H E hr ⟨rope, heights⟩ hp
  try dsimp only at hp
  refine ⟨_, (pss_cons (ps_asg (pv 0) (pg_tup rfl (pgs_cons (pg_name (i := 3) sc_room_by.nd rfl (by first | exact Or.inl rfl | exact Or.inr rfl)) (pgs_cons (pg_name (i := 4) sc_room_by.nd rfl (by first | exact Or.inl rfl | exact Or.inr rfl)) (pgs_cons (pg_name (i := 5) sc_room_by.nd rfl (by first | exact Or.inl rfl | exact Or.inr rfl)) (pgs_nil))))))
      (pss_cons (ps_set (i := 2) sc_room_by.nd rfl (by first | exact Or.inl rfl | exact Or.inr rfl) (pe_op op_cat (pe_lst (pa_cons (pe_int) pa_nil)) (pv 1)))
      (pss_one (ps_ret (pe_op op_add (pe_op op_sub (pv 5) (pe_ix (r := rIxL K) ix_list (pv 2) (pv 3) (fun _ _ => rfl))) (pe_ix (r := rIxL K) ix_list (pv 2) (pv 4) (fun _ _ => rfl))))))), fun b Q sb k => ?_⟩
  try dsimp only
  try dsimp only at k
  refine sq_asgT (vs := [3, 4, 5]) (ev_var rfl) (tg_pps3 (tg_name) (tg_name) (tg_name)) ?_
  refine sq_asg (ev_op (ev_lst I [_] (ea_cons (ev_int) ea_nil)) (ev_var rfl) (rv_cat ?w1)) ?_
  case w1 =>
    have := hp.2
    simp
    omega
  exact goR k.fin (ev_op (ev_op (ev_var rfl) (ev_op (ev_var rfl) (ev_var rfl) (rv_ixL (hi_at hp.1.1 hp.1.2.1))) rv_sub) (ev_op (ev_var rfl) (ev_var rfl) (rv_ixL (hi_at hp.1.2.2.1 hp.1.2.2.2.1))) rv_add) rfl

abbrev N_broken : List PySem.Str := ["rig", "heights", "number", "rope"]
theorem sc_broken : FnScope N_broken ["rig", "heights"] (defScope s_broken) := ⟨rfl, rfl, rfl, by decide +kernel, rfl, by decide +kernel, by decide +kernel⟩
abbrev sp_broken (K : PySem.W.Frag) : Sp := SpP (fun a : Int × List Rope × List Int => okRs a.1 a.2.1 ∧ (a.2.2.length : Int) = a.1) (fun a => [Rg K a.1 a.2.1, L I a.2.2]) (fun a => L I (m_broken a.2.1 a.2.2))
theorem ok_broken (W : Wd K mg) : Fn Pg w K mg base 5 "broken" (sp_broken K) [] := by
  obtain ⟨fd, F⟩ := W.says.def_ 13 (d := d_broken) rfl
  refine ⟨_, fd, ["rig", "heights"], [], fn_ok F sc_broken (fun _ => rfl) (by decide) ?_, W.g 13 _ rfl, F.kp, FunD.bindsN F (fun _ _ _ _ _ _ us hl => match us, hl with | [_, _], _ => rfl), .nil⟩
  rintro cdv A outer s H E hr ⟨n, rs, heights⟩ hp
  try dsimp only at hp
  refine ⟨_, (pss_cons (ps_expr (pe_fn (ok_look_at_heights W) (hr.mono (by decide)) (by rfl) (pa_cons (pv 0) (pa_cons (pv 1) pa_nil))))
      (pss_one (ps_ret (pe_lc (own := [("number", 2), ("rope", 3)]) (g := gTup K 2 (gCons (gName 2) (gCons (gName 3) (gNil)))) rfl sc_broken.nd (pi_enum (by rfl) (W.z 69 _ rfl) (pa_cons (pe_mt0 (ok_Rig_ropes W) (hr.mono (by decide)) W.cRig (pv 0)) pa_nil)) (blkOk_by (own := [("number", 2), ("rope", 3)]) (N := N_broken) (sc := defScope s_broken) (by decide +kernel)) (fun _ _ _ _ _ => pg_tup rfl (pgs_cons (pg_name (i := 2) sc_broken.nd rfl (by first | exact Or.inl rfl | exact Or.inr rfl)) (pgs_cons (pg_name (i := 3) sc_broken.nd rfl (by first | exact Or.inl rfl | exact Or.inr rfl)) (pgs_nil)))) (fun _ _ _ _ _ => pts_one (pt_cmpR op_lt (pe_fn (ok_room_by W) (hr.mono (by decide)) (by rfl) (pa_cons (pv 3) (pa_cons (pv 1) pa_nil))) (pe_int) (nomark _))) (fun _ _ _ _ _ => (pv 2)))))), fun b Q sb k => ?_⟩
  try dsimp only
  try dsimp only at k
  refine sq_drop (ev_call (n, rs, heights) (ea_cons (ev_var rfl) (ea_cons (ev_var rfl) ea_nil)) hp) ?_
  refine goR k.fin (ev_lc I (fun z => decide (room z.2 heights < 0)) (fun z => z.1) _ (src_enum (ea_cons (ev_meth (n, rs) (ev_var rfl) (by decide +kernel) (by decide +kernel) ea_nil trivial) ea_nil)) (fun z _ => tg_pps (tg_name) (tg_name)) (fun z hz O => (et_test (ev_op (ev_call (z.2, heights) (ea_cons (ev_var rfl) (ea_cons (ev_var rfl) ea_nil)) ?w1) (ev_int) rv_lt))) (fun z hz hc O => (ev_var rfl)) ?w2) rfl
  case w1 =>
    have h1 := hp.2
    have h2 := hp.1.n8
    refine ⟨?_, ?_⟩
    · show okR heights.length z.2
      rw [h1]
      exact hp.1.all _ (en_mem hz)
    · show heights.length ≤ 1000
      omega
  case w2 =>
    have := hp.1.len
    rw [en_length]
    show rs.length < _
    omega

abbrev N_is_stand : List PySem.Str := ["rig", "thing"]
theorem sc_is_stand : FnScope N_is_stand ["rig", "thing"] (defScope s_is_stand) := ⟨rfl, rfl, rfl, by decide +kernel, rfl, by decide +kernel, by decide +kernel⟩
abbrev sp_is_stand (K : PySem.W.Frag) : Sp := SpP (fun a : Int × List Rope × List Int => okRs a.1 a.2.1 ∧ (a.2.2.length : Int) = a.1) (fun a => [Rg K a.1 a.2.1, L I a.2.2]) (fun a => Bo (decide (m_broken a.2.1 a.2.2 = [])))
theorem ok_is_stand (W : Wd K mg) : Fn Pg w K mg base 6 "is_stand" (sp_is_stand K) [] := by
  obtain ⟨fd, F⟩ := W.says.def_ 14 (d := d_is_stand) rfl
  refine ⟨_, fd, ["rig", "thing"], [], fn_ok F sc_is_stand (fun _ => rfl) (by decide) ?_, W.g 14 _ rfl, F.kp, FunD.bindsN F (fun _ _ _ _ _ _ us hl => match us, hl with | [_, _], _ => rfl), .nil⟩
  rintro cdv A outer s H E hr ⟨n, rs, thing⟩ hp
  try dsimp only at hp
  have hu64 : (cxOf CX0 Pg w K mg base N_is_stand "is_stand" (defScope s_is_stand) (He.fAd K d_is_stand.at_) cdv A outer s H E).nox.A.units + 64 < cLine := hu64_of hr
  refine ⟨_, (pss_one (ps_ret ((pe_and (pe_fn (ok_is_heights W) (hr.mono (by decide)) (by rfl) (pa_cons (pv 0) (pa_cons (pv 1) pa_nil))) (pe_one (pe_cmpR (r := rEqD K) (op_eqD hu64) (pe_fn (ok_broken W) (hr.mono (by decide)) (by rfl) (pa_cons (pv 0) (pa_cons (pv 1) pa_nil))) (pe_lst pa_nil) (nomark _))))))), fun b Q sb k => ?_⟩
  try dsimp only
  try dsimp only at k
  refine goR k.fin ((ev_andV (ev_call (n, rs, thing) (ea_cons (ev_var rfl) (ea_cons (ev_var rfl) ea_nil)) ?w1) fun _ => (ev_op (ev_call (n, rs, thing) (ea_cons (ev_var rfl) (ea_cons (ev_var rfl) ea_nil)) ?w2) (ev_lst I [] ea_nil) rv_eqL))) ?w3
  case w1 =>
    have h1 := hp.2
    have h2 := hp.1.n8
    show thing.length ≤ 1000
    omega
  case w2 => exact hp
  case w3 => simp [hp.2]

abbrev N_look_at_stand : List PySem.Str := ["rig", "stand", "some"]
theorem sc_look_at_stand : FnScope N_look_at_stand ["rig", "stand"] (defScope s_look_at_stand) := ⟨rfl, rfl, rfl, by decide +kernel, rfl, by decide +kernel, by decide +kernel⟩
abbrev sp_look_at_stand (K : PySem.W.Frag) : Sp := SpP (fun a : Int × List Rope × List Int => okRs a.1 a.2.1 ∧ isSt a.1 a.2.1 a.2.2) (fun a => [Rg K a.1 a.2.1, L I a.2.2]) (fun a => No)
theorem ok_look_at_stand (W : Wd K mg) : Fn Pg w K mg base 6 "look_at_stand" (sp_look_at_stand K) [] := by
  obtain ⟨fd, F⟩ := W.says.def_ 15 (d := d_look_at_stand) rfl
  refine ⟨_, fd, ["rig", "stand"], [], fn_ok F sc_look_at_stand (fun _ => rfl) (by decide) ?_, W.g 15 _ rfl, F.kp, FunD.bindsN F (fun _ _ _ _ _ _ us hl => match us, hl with | [_, _], _ => rfl), .nil⟩
  rintro cdv A outer s H E hr ⟨n, rs, stand⟩ hp
  try dsimp only at hp
  have hu64 : (cxOf CX0 Pg w K mg base N_look_at_stand "look_at_stand" (defScope s_look_at_stand) (He.fAd K d_look_at_stand.at_) cdv A outer s H E).nox.A.units + 64 < cLine := hu64_of hr
  refine ⟨_, (pss_cons (ps_set (i := 2) sc_look_at_stand.nd rfl (by first | exact Or.inl rfl | exact Or.inr rfl) (pe_fn (ok_broken W) (hr.mono (by decide)) (by rfl) (pa_cons (pv 0) (pa_cons (pv 1) pa_nil))))
      (pss_one (ps_if (pt_cmpR (r := rNeD K) (op_neD hu64) (pv 2) (pe_lst pa_nil) (nomark _)) pss_never pss_nil))), fun b Q sb k => ?_⟩
  try dsimp only
  try dsimp only at k
  refine sq_asg (ev_call (n, rs, stand) (ea_cons (ev_var rfl) (ea_cons (ev_var rfl) ea_nil)) ⟨hp.1, hp.2.len⟩) ?_
  refine go_no (et_test (ev_op (ev_var rfl) (ev_lst I [] ea_nil) rv_neL)) ?w1 (nx_fin k.fin)
  case w1 => simp [hp.2.broken]

end
end Rb

set_option Elab.async false
set_option linter.all false
set_option maxRecDepth 100000
set_option maxHeartbeats 4000000
/-! Least sums, as the program reckons them: plain Lean. -/
namespace Rb
open L2
abbrev Best := List (Int × Int × List Int)
theorem dl_dp {α : Type} (kvs : List (Int × α)) (k j : Int) (x : α) : dl (dp kvs k x) j = if j = k then some x else dl kvs j := by
  unfold dp
  by_cases h : (dl kvs k).isSome = true
  · rw [if_pos h]
    induction kvs with
    | nil => simp [dl] at h
    | cons p r ih =>
      rw [List.map_cons]
      by_cases e : p.1 = k
      · rw [if_pos e]
        by_cases ej : j = k
        · rw [if_pos ej]
          simp [dl, List.find?_cons, e, ej]
        · rw [if_neg ej]
          have n1 : ¬ p.1 = j := fun z => ej (z.symm.trans e)
          have a1 : dl ((p.1, x) :: r.map fun kv => if kv.1 = k then (kv.1, x) else kv) j = dl (r.map fun kv => if kv.1 = k then (kv.1, x) else kv) j := by simp [dl, List.find?_cons, n1]
          have a2 : dl (p :: r) j = dl r j := by simp [dl, List.find?_cons, n1]
          rw [a1, a2]
          by_cases h2 : (dl r k).isSome = true
          · rw [ih h2, if_neg ej]
          · have nm : ∀ q ∈ r, ¬ q.1 = k := fun q hq z => h2 (by
              have : (r.find? fun kv => decide (kv.1 = k)).isSome = true := List.find?_isSome.mpr ⟨q, hq, by simp [z]⟩
              simpa [dl] using this)
            have : (r.map fun kv => if kv.1 = k then (kv.1, x) else kv) = r := by
              conv => rhs; rw [← List.map_id r]
              refine List.map_congr_left fun q hq => ?_
              rw [if_neg (nm q hq)]
              rfl
            rw [this]
      · rw [if_neg e]
        have h' : (dl r k).isSome = true := by
          have : dl (p :: r) k = dl r k := by simp [dl, List.find?_cons, e]
          rw [← this]
          exact h
        have ih' := ih h'
        by_cases ej : p.1 = j
        · have nj : ¬ j = k := fun z => e (ej.trans z)
          rw [if_neg nj]
          simp [dl, List.find?_cons, ej]
        · have a1 : dl (p :: r.map fun kv => if kv.1 = k then (kv.1, x) else kv) j = dl (r.map fun kv => if kv.1 = k then (kv.1, x) else kv) j := by simp [dl, List.find?_cons, ej]
          have a2 : dl (p :: r) j = dl r j := by simp [dl, List.find?_cons, ej]
          rw [a1, a2, ih']
  · rw [if_neg h]
    have hn : dl kvs k = none := by simpa using h
    by_cases ej : j = k
    · subst ej
      rw [if_pos rfl]
      have : kvs.find? (fun kv => decide (kv.1 = j)) = none := by
        unfold dl at hn
        simpa using hn
      simp [dl, List.find?_append, this]
    · rw [if_neg ej]
      have n1 : ¬ k = j := fun z => ej z.symm
      simp [dl, List.find?_append, n1]
theorem dl_mem {α : Type} {kvs : List (Int × α)} {k : Int} {x : α} (h : dl kvs k = some x) : (k, x) ∈ kvs := by
  unfold dl at h
  cases e : kvs.find? fun kv => decide (kv.1 = k) with
  | none =>
    rw [e] at h
    cases h
  | some p =>
    rw [e] at h
    cases h
    have h1 := of_decide_eq_true (List.find?_some (p := fun kv : Int × α => decide (kv.1 = k)) e)
    have h2 := List.mem_of_find?_eq_some e
    rw [← h1]
    exact h2
theorem dp_len {α : Type} (kvs : List (Int × α)) (k : Int) (x : α) : (dp kvs k x).length ≤ kvs.length + 1 := paired_put_len kvs
theorem dp_mem {α : Type} {kvs : List (Int × α)} {k : Int} {x : α} {p : Int × α} (h : p ∈ dp kvs k x) : p ∈ kvs ∨ p = (k, x) := by
  unfold dp at h
  split at h
  · obtain ⟨q, hq, e⟩ := List.mem_map.mp h
    by_cases z : q.1 = k
    · rw [if_pos z] at e
      right
      rw [← e, z]
    · rw [if_neg z] at e
      left
      rw [← e]
      exact hq
  · rcases List.mem_append.mp h with h | h
    · exact .inl h
    · exact .inr (by simpa using h)
/-- one rope looked at: the sums so far, the last knot that became less -/
def rx (s : Best × Option Int) (z : Int × Rope) : Best × Option Int :=
  match dl s.1 z.2.2.1 with
  | none => s
  | some e => if (!(dl s.1 z.2.1).isSome || decide (e.1 + z.2.2.2 < ((dl s.1 z.2.1).getD (0, [])).1)) = true then (dp s.1 z.2.1 (e.1 + z.2.2.2, z.1 :: e.2), some z.2.1) else s
def ps (rs : List Rope) (b : Best) : Best × Option Int := (en 0 rs).foldl rx (b, none)
def it (rs : List Rope) : Nat → Best → Best
  | 0, b => b
  | t + 1, b => (ps rs (it rs t b)).1
/-- how many, how long -/
def szB (m : Nat) (b : Best) : Prop := b.length ≤ m ∧ ∀ p ∈ b, p.2.2.length ≤ m
theorem szB.mono {m m' : Nat} {b : Best} (h : szB m b) (l : m ≤ m') : szB m' b := ⟨Nat.le_trans h.1 l, fun p hp => Nat.le_trans (h.2 p hp) l⟩
theorem szB.rx {m : Nat} {s : Best × Option Int} (h : szB m s.1) (z : Int × Rope) : szB (m + 1) (rx s z).1 := by
  unfold Rb.rx
  cases e : dl s.1 z.2.2.1 with
  | none => exact h.mono (Nat.le_succ _)
  | some v =>
    simp only
    split
    · refine ⟨Nat.le_trans (dp_len _ _ _) (Nat.succ_le_succ h.1), fun p hp => ?_⟩
      rcases dp_mem hp with hp | rfl
      · exact Nat.le_succ_of_le (h.2 p hp)
      · have := h.2 _ (dl_mem e)
        simpa using this
    · exact h.mono (Nat.le_succ _)
theorem szB.fold {m : Nat} : ∀ (l : List (Int × Rope)) {s : Best × Option Int}, szB m s.1 → szB (m + l.length) (l.foldl Rb.rx s).1
  | [], _, h => h
  | z :: l, s, h => by
    have := szB.fold (m := m + 1) l (h.rx z)
    rw [List.length_cons, List.foldl_cons]
    exact this.mono (by omega)
theorem szB.it {m : Nat} {rs : List Rope} {b : Best} (h : szB m b) : ∀ (t : Nat), szB (m + t * rs.length) (it rs t b)
  | 0 => by simpa [Rb.it] using h
  | t + 1 => by
    have := szB.fold (en 0 rs) (s := (Rb.it rs t b, none)) (h.it t)
    rw [en_length] at this
    have e : m + (t + 1) * rs.length = m + t * rs.length + rs.length := by rw [Nat.succ_mul]; omega
    rw [e]
    exact this
theorem szB.sub {m : Nat} {b : Best} {i : Nat} {rs : List Rope} (h : szB m b) : szB (m + i) (((en 0 rs).take i).foldl Rb.rx (b, none)).1 := by
  have := szB.fold ((en 0 rs).take i) (s := (b, none)) h
  exact this.mono (by have := List.length_take_le i (en 0 rs); omega)
/-- a pass that makes nothing less changes nothing -/
theorem rx_none {s : Best × Option Int} {z : Int × Rope} (h : (rx s z).2 = none) : rx s z = s := by
  unfold rx at h ⊢
  cases e : dl s.1 z.2.2.1 with
  | none => rfl
  | some v =>
    rw [e] at h
    simp only at h ⊢
    split at h
    · cases h
    · rename_i q
      rw [if_neg q]
theorem rx_some {s : Best × Option Int} {z : Int × Rope} (h : s.2.isSome = true) : (rx s z).2.isSome = true := by
  unfold rx
  cases e : dl s.1 z.2.2.1 with
  | none => exact h
  | some v =>
    simp only
    split
    · rfl
    · exact h
theorem fold_some : ∀ (l : List (Int × Rope)) {s : Best × Option Int}, s.2.isSome = true → (l.foldl rx s).2.isSome = true
  | [], _, h => h
  | z :: l, s, h => fold_some l (rx_some h)
theorem fold_none : ∀ (l : List (Int × Rope)) {s : Best × Option Int}, (l.foldl rx s).2 = none → l.foldl rx s = s
  | [], _, _ => rfl
  | z :: l, s, h => by
    rw [List.foldl_cons] at h ⊢
    have h1 : (rx s z).2 = none := by
      cases e : (rx s z).2 with
      | none => rfl
      | some u =>
        have := fold_some l (s := rx s z) (by rw [e]; rfl)
        rw [h] at this
        cases this
    have e1 := fold_none l h
    rw [e1, rx_none h1]
theorem ps_none {rs : List Rope} {b : Best} (h : (ps rs b).2 = none) : (ps rs b).1 = b := by
  unfold ps at h ⊢
  rw [fold_none _ h]
theorem it_succ (rs : List Rope) : ∀ (t : Nat) (b : Best), it rs (t + 1) b = it rs t (ps rs b).1
  | 0, b => rfl
  | t + 1, b => by
    show (ps rs (it rs (t + 1) b)).1 = (ps rs (it rs t (ps rs b).1)).1
    rw [it_succ rs t b]
theorem it_fix {rs : List Rope} {b : Best} (h : (ps rs b).2 = none) : ∀ (t : Nat), it rs t b = b
  | 0 => rfl
  | t + 1 => by
    show (ps rs (it rs t b)).1 = b
    rw [it_fix h t, ps_none h]
theorem it_add (rs : List Rope) : ∀ (t u : Nat) (b : Best), it rs (t + u) b = it rs u (it rs t b)
  | t, 0, b => rfl
  | t, u + 1, b => by
    show (ps rs (it rs (t + u) b)).1 = (ps rs (it rs u (it rs t b))).1
    rw [it_add rs t u b]
/-- from the turn on at which nothing became less, all is as it is in the end -/
theorem it_end {rs : List Rope} {b : Best} {i m : Nat} (h : (ps rs (it rs i b)).2 = none) (hi : i ≤ m) : it rs m b = it rs i b := by
  have e : m = i + (m - i) := by omega
  rw [e, it_add, it_fix h]
/-- what is told of it stays told of it -/
theorem rx_keys {s : Best × Option Int} {z : Int × Rope} {k : Int} (h : (dl s.1 k).isSome = true) : (dl (rx s z).1 k).isSome = true := by
  unfold rx
  cases e : dl s.1 z.2.2.1 with
  | none => exact h
  | some v =>
    simp only
    split
    · rw [dl_dp]
      split
      · rfl
      · exact h
    · exact h
theorem fold_keys : ∀ (l : List (Int × Rope)) {s : Best × Option Int} {k : Int}, (dl s.1 k).isSome = true → (dl (l.foldl rx s).1 k).isSome = true
  | [], _, _, h => h
  | z :: l, s, k, h => fold_keys l (rx_keys h)
theorem it_keys {rs : List Rope} {b : Best} {k : Int} (h : (dl b k).isSome = true) : ∀ (t : Nat), (dl (it rs t b) k).isSome = true
  | 0 => h
  | t + 1 => fold_keys (en 0 rs) (s := (it rs t b, none)) (it_keys h t)
/-- the sums from all knots at 0 on; those to one knot -/
def zero (n : Int) : Best := (rg 0 (n + 1)).map fun k => (k, 0, [])
def one (k : Int) : Best := [(k, 0, [])]
def conv (n : Int) (rs : List Rope) (b : Best) : Prop := (ps rs (it rs (n.toNat + 1) b)).2 = none
def tab (n : Int) (rs : List Rope) (k : Int) : Best := it rs (n.toNat + 2) (one k)
def tabs (n : Int) (rs : List Rope) : List Best := (rg 0 (n + 1)).map (tab n rs)
structure okT (n : Int) (rs : List Rope) : Prop where
  ok : okRs n rs
  zr : conv n rs (zero n)
  on : ∀ k, 0 ≤ k → k ≤ n → conv n rs (one k)
theorem dl_zero {n k : Int} (h0 : 0 ≤ k) (h1 : k ≤ n) : (dl (zero n) k).isSome = true := by
  unfold dl zero
  rw [Option.isSome_map, List.find?_isSome]
  exact ⟨(k, 0, []), List.mem_map.mpr ⟨k, mem_rg.mpr ⟨h0, by omega⟩, rfl⟩, by simp⟩
theorem sz_zero {n : Int} (h : n ≤ 8) : szB 100 (zero n) := by
  refine ⟨?_, fun p hp => ?_⟩
  · unfold zero
    rw [List.length_map, rg_length]
    omega
  · obtain ⟨k, _, rfl⟩ := List.mem_map.mp hp
    exact Nat.zero_le _
theorem sz_one (k : Int) : szB 100 (one k) := ⟨by simp [one], fun p hp => by simp [one] at hp; subst hp; exact Nat.zero_le _⟩
end Rb

set_option Elab.async false
set_option linter.all false
set_option maxRecDepth 100000
set_option maxHeartbeats 4000000
namespace Rb
open PySem PySem.Spec PyProof.Rows L2
section
variable {b : Bs} {G G' G1 : List (Option HP)} {O O1 O2 O' : List Ow} {P P0 P1 P2 : HP} {tt : TT} {t u : TS} {D : Ends} {ta tb te td ty tk tv : TE} {K : PySem.W.Frag} {α β ζ : Type} {f : α → HP} {kvs : List (Int × α)} {xs : List α}
def An : HP := ⟨fun _ _ => True, fun _ h => h⟩
theorem ev_an (h : Ev b te G O P O1) : Ev b te G O An O1 := h.imp fun _ _ _ => trivial
def Tw : Option (Int × List Int) → HP
  | none => Tp [No, No]
  | some e => Be e
def OL : Option (List Int) → HP
  | none => No
  | some c => L I c
theorem go_never (h : False) : Go b t G O D := h.elim
theorem rv_notN0 {S : Hp → Hp → Prop} : RV S rNotN No No (Bo false) := fun x y B H s _ hx hy Q k => by
  cases (show x = .non from hx)
  exact ⟨hy, k _ B H (Fr.refl s) rfl⟩
theorem rv_isNL {S : Hp → Hp → Prop} {o : Option (List Int)} : RV S rIsN (OL o) No (Bo o.isNone) := fun x y B H s _ hx hy Q k => by
  refine ⟨hy, k _ B H (Fr.refl s) ?_⟩
  cases o with
  | none =>
    cases (show x = .non from hx)
    rfl
  | some c =>
    obtain ⟨a, u, rfl, _⟩ := hx
    rfl
/-- d.get(k, x), what is told of the answer by whether it is there -/
theorem ev_getOr {k : Int} (R : Option α → HP) (h : Ev b td G O P O1) (hk : Ev b ty G O1 (I k) O1) (hx : Ev b te G O1 P0 O1) (d : DAt O1 f kvs P) (h0 : P0 = R none) (h1 : ∀ x, f x = R (some x)) : Ev b (tDGet2 td ty te) G O (R (dl kvs k)) O1 := fun σ B H S Q q =>
  h σ B H S _ fun v B1 H1 s1 S1 hv => by
    obtain ⟨a, vs1, rfl, ha1, _⟩ := d.get S1.bh S1.hold hv
    refine ⟨a, rfl, .inl ⟨vs1, .inl ha1⟩, hk σ B1 H1 S1 _ fun w B2 H2 s2 S2 hw => hx σ B2 H2 S2 _ fun z B3 H3 s3 S3 hz => ?_⟩
    obtain ⟨a', vs, e, ha, hp⟩ := d.get S3.bh S3.hold (P.m (s2.trans s3) hv)
    cases e
    cases (show w = .int k from hw)
    refine ⟨_, DGet.k (k := Sum.inl k) ha, q _ B3 H3 ((s1.trans s2).trans s3) S3 ?_⟩
    cases e : dl kvs k with
    | none =>
      have q := dl_val (k := k) hp
      rw [e] at q
      cases hv2 : valV vs (Sum.inl k) with
      | none =>
        rw [h0] at hz
        exact hz
      | some v =>
        rw [hv2] at q
        exact q.elim
    | some y =>
      obtain ⟨v, hv2, hf⟩ := dl_some hp e
      rw [hv2, ← h1]
      exact hf
/-- {k: v} -/
theorem evx_disp1 {k : Int} {x : α} (f : α → HP) (hk : ∀ O, Ev b tk G O (I k) O) (hv : ∀ O, Ev b tv G O (f x) O) : EvX b (tDisp [(tk, tv)]) G O At (fun d => (d, oD f [(k, x)]) :: O) := fun σ B H S Q q p hp => by
  have S1 := S.own (o := oD f ([] : List (Int × α))) hp ⟨[], rfl, .nil⟩
  refine hk _ σ B _ S1 _ fun w B2 H2 s2 S2 hw => hv _ σ B2 H2 S2 _ fun z B3 H3 s3 S3 hz => ?_
  cases (show w = .int k from hw)
  obtain ⟨_, h2, u, hu, ws, rfl, hp⟩ := S3.ow _ (List.mem_cons_self ..)
  cases hp
  refine ⟨hu, [(Sum.inl k, z)], rfl, by show 1 ≤ 15; decide, q p _ B3 _ (s2.trans s3) (S3.put ⟨_, rfl, ?_⟩) rfl⟩
  exact .cons ⟨rfl, hz⟩ .nil
/-- a for, with what is known of the turns gone through -/
theorem go_forP {wi : TI} {g : TG} {zs : List ζ} {y : ζ → HP} {vs : List Nat} (hs : Src b wi G O zs y O1) (Pi : Nat → Prop) (Gi : Nat → List (Option HP)) (Oi : Nat → List Ow) (Gt : Nat → ζ → List (Option HP)) (p0 : Pi 0) (w0 : Wkn (Gi 0) G) (e0 : O1 = Oi 0)
    (ht : ∀ i z, zs[i]? = some z → Tg g (y z) (Gi i) (Gt i z) vs) (hb : ∀ b', Reb b b' → ∀ i z, zs[i]? = some z → Pi i → Go b' t (Gt i z) (Oi i) { D with nx := fun σ H => Pi (i + 1) ∧ Pst b' (Gi (i + 1)) (Oi (i + 1)) σ H, ct := fun σ H => Pi (i + 1) ∧ Pst b' (Gi (i + 1)) (Oi (i + 1)) σ H, bk := D.nx })
    (hd : Pi zs.length → Nx b (Gi zs.length) (Oi zs.length) D.nx) : Go b (tFor wi g t) G O D := fun σ B H S => hs σ B H S _ fun J B1 H1 s1 S1 W => by
  subst e0
  have r1 : Reb b ⟨B1, b.H0⟩ := S1.rebase
  refine ⟨fun i m σ' H' => m = zs.length - i ∧ i ≤ zs.length ∧ Pi i ∧ Pst ⟨B1, b.H0⟩ (Gi i) (Oi i) σ' H', ⟨_, rfl, Nat.zero_le _, p0, B1, S1.to (S1.weak w0) (Same.refl _)⟩, ?_⟩
  rintro i m σ' H' ⟨rfl, hi, pp, B', S'⟩
  by_cases hlt : i < zs.length
  · refine .inr ⟨W.go i H' hlt (S'.bb.trans S'.bh) S'.hh, fun σ H => Pi (i + 1) ∧ Pst ⟨B1, b.H0⟩ (Gi (i + 1)) (Oi (i + 1)) σ H, fun σ2 H2 p2 => ⟨zs.length - (i + 1), by omega, rfl, hlt, p2⟩, fun x H2 yl => ?_⟩
    have hz : zs[i]? = some zs[i] := by simp [hlt]
    obtain ⟨B2, fr, hx⟩ := W.yld i _ H' x H2 hz (S'.bb.trans S'.bh) S'.hh yl B' S'.bb S'.bh
    exact ht i _ hz ⟨B1, b.H0⟩ (Oi i) σ' B2 H2 x (S'.step fr) hx _ fun σ3 _ S3 => hb _ r1 i _ hz pp σ3 B2 H2 S3
  · have e : i = zs.length := by omega
    subst e
    exact .inl ⟨W.stop H' (S'.bb.trans S'.bh) S'.hh, hd pp σ' B' H' (S'.reb r1)⟩
theorem sq_forP {wi : TI} {g : TG} {zs : List ζ} {y : ζ → HP} {vs : List Nat} (hs : Src b wi G O zs y O1) (Pi : Nat → Prop) (Gi : Nat → List (Option HP)) (Oi : Nat → List Ow) (Gt : Nat → ζ → List (Option HP)) (p0 : Pi 0) (w0 : Wkn (Gi 0) G) (e0 : O1 = Oi 0)
    (ht : ∀ i z, zs[i]? = some z → Tg g (y z) (Gi i) (Gt i z) vs) (hb : ∀ b', Reb b b' → ∀ i z, zs[i]? = some z → Pi i → Go b' t (Gt i z) (Oi i) { D with nx := fun σ H => Pi (i + 1) ∧ Pst b' (Gi (i + 1)) (Oi (i + 1)) σ H, ct := fun σ H => Pi (i + 1) ∧ Pst b' (Gi (i + 1)) (Oi (i + 1)) σ H, bk := u D })
    (hd : Pi zs.length → Go b u (Gi zs.length) (Oi zs.length) D) : Go b (tSeq (tFor wi g t) u) G O D := go_forP (D := { D with nx := u D }) hs Pi Gi Oi Gt p0 w0 e0 ht hb hd
theorem nx_and {Q : Prop} {N : L2.St → Hp → Prop} (h : Q) (k : Nx b G O N) : Nx b G O (fun σ H => Q ∧ N σ H) := fun σ B H S => ⟨h, k σ B H S⟩
/-- an owned instance's second field, a list that is handed over -/
theorem nx_tab {res : HP} {C x l : Addr} {f1 f2 : Str} {own' : Unit → List Ow} {Q : VK} (ho : own' () = [(x, o2 C f1 P1 f2 (L f xs))]) (k : FinX b (fun _ : Unit => No) own' Q) (hO : O = (l, oL f xs) :: (x, o2 C f1 P1 f2 (At l)) :: O') : Nx b G O (fun _ H => Q .non H) := fun σ B H S => by
  subst hO
  obtain ⟨B2, S2, h2, s2⟩ := S.free
  obtain ⟨g1, g2, v, g3, dx, v1, v2, e, q1, q2⟩ := S2.ow _ (List.mem_cons_self ..)
  refine k () .non B2 H S2.bb S2.bh S2.hh S2.fz (fun z hz => ?_) (by rw [ho]; simp) rfl
  rw [ho] at hz
  simp at hz
  subst hz
  refine ⟨g1, g2, v, g3, dx, v1, v2, e, q1, ?_⟩
  cases (show v2 = .ref l from q2)
  exact h2
theorem ev_unit {P : Unit → HP} {Oy : Unit → List Ow} (h : EvX b te G O P Oy) : Ev b te G O (P ()) (Oy ()) := fun σ B H S Q k => h σ B H S Q fun y v B' H' s S' q => k v B' H' s S' q
theorem nx_perm {N : L2.St → Hp → Prop} (w : O'.Perm O) (h : Nx b G O' N) : Nx b G O N := fun σ B H S => h σ B H (S.perm w)
theorem rv_tw0 {S : Hp → Hp → Prop} {o : Option (Int × List Int)} : RV S (rIxT K) (Tw o) (I 0) (Op (o.map (·.1))) := by
  cases o with
  | none => exact rv_ixT (f := fun P : HP => P) (xs := [No, No]) rfl
  | some e => exact rv_ixT (f := fun P : HP => P) (xs := [I e.1, L I e.2]) rfl
theorem rv_tw1 {S : Hp → Hp → Prop} {o : Option (Int × List Int)} : RV S (rIxT K) (Tw o) (I 1) (OL (o.map (·.2))) := by
  cases o with
  | none => exact rv_ixT (f := fun P : HP => P) (xs := [No, No]) rfl
  | some e => exact rv_ixT (f := fun P : HP => P) (xs := [I e.1, L I e.2]) rfl
theorem rg_nodup (lo n : Int) : (rg lo n).Nodup := by
  unfold rg List.Nodup
  rw [List.pairwise_map]
  exact List.nodup_range.imp fun h e => h (by omega)
theorem atI_rg {lo n k : Int} {α : Type} (f : Int → α) (h0 : 0 ≤ k) (h1 : k < n - lo) : atI ((rg lo n).map f) k = some (f (lo + k)) := by
  obtain ⟨j, rfl⟩ := Int.eq_ofNat_of_zero_le h0
  have hj : j < (n - lo).toNat := by omega
  have : ixN ((rg lo n).map f).length (j : Int) = some j := by
    rw [List.length_map, rg_length]
    unfold ixN
    simp
    omega
  unfold atI
  rw [this]
  simp [rg, hj]
theorem tabs_at {n k : Int} {rs : List Rope} (h0 : 0 ≤ k) (h1 : k ≤ n) : atI (tabs n rs) k = some (tab n rs k) := by
  have := atI_rg (lo := 0) (n := n + 1) (tab n rs) h0 (by omega)
  rw [Int.zero_add] at this
  exact this
end
end Rb

set_option Elab.async false
set_option linter.all false
set_option maxRecDepth 100000
set_option maxHeartbeats 4000000
namespace Rb
open PySem PySem.Spec PyProof.Rows L2
section
variable {Pg : Program} {w : World} {K : PySem.W.Frag} {mg : Str → Option Value} {base : Heap}
abbrev N_spread : List PySem.Str := ["ropes", "many", "best", "turn", "later", "number", "upper", "lower", "most", "found"]
theorem sc_spread : FnScope N_spread ["ropes", "many", "best"] (defScope s_spread) := ⟨rfl, rfl, rfl, by decide +kernel, rfl, by decide +kernel, by decide +kernel⟩
abbrev sp_spread (K : PySem.W.Frag) : Sp := Spx (β := Unit) (fun a : Addr × List Rope × Int × Best => okRs a.2.2.1 a.2.1 ∧ szB 100 a.2.2.2 ∧ conv a.2.2.1 a.2.1 a.2.2.2) (fun a => [L Ro a.2.1, I a.2.2.1, At a.1]) (fun a => [(a.1, oD Be a.2.2.2)]) (fun _ _ => No) (fun a _ => [(a.1, oD Be (it a.2.1 (a.2.2.1.toNat + 2) a.2.2.2))])
theorem ok_spread (W : Wd K mg) : Fn Pg w K mg base 1 "spread" (sp_spread K) [] := by
  obtain ⟨fd, F⟩ := W.says.def_ 16 (d := d_spread) rfl
  refine ⟨_, fd, ["ropes", "many", "best"], [], fn_ok F sc_spread (fun _ => rfl) (by decide) ?_, W.g 16 _ rfl, F.kp, FunD.bindsN F (fun _ _ _ _ _ _ us hl => match us, hl with | [_, _, _], _ => rfl), .nil⟩
  rintro cdv A outer s H E hr ⟨d, ropes, many, best⟩ hp
  try dsimp only at hp
  have hu : (cxOf CX0 Pg w K mg base N_spread "spread" (defScope s_spread) (He.fAd K d_spread.at_) cdv A outer s H E).nox.A.units + 1 < cLine := hu_of hr
  refine ⟨_, (pss_cons (ps_for PassesOwn.never rfl (pi_range1 (by rfl) (W.z 68 _ rfl) (pa_cons (pe_op op_add (pv 1) (pe_int)) pa_nil)) (pg_name (i := 3) sc_spread.nd rfl (by first | exact Or.inl rfl | exact Or.inr rfl)) (pss_cons (ps_set (i := 4) sc_spread.nd rfl (by first | exact Or.inl rfl | exact Or.inr rfl) (pe_non))
      (pss_cons (ps_for PassesOwn.never rfl (pi_enum (by rfl) (W.z 69 _ rfl) (pa_cons (pv 0) pa_nil)) (pg_tup rfl (pgs_cons (pg_name (i := 5) sc_spread.nd rfl (by first | exact Or.inl rfl | exact Or.inr rfl)) (pgs_cons (pg_tup rfl (pgs_cons (pg_name (i := 6) sc_spread.nd rfl (by first | exact Or.inl rfl | exact Or.inr rfl)) (pgs_cons (pg_name (i := 7) sc_spread.nd rfl (by first | exact Or.inl rfl | exact Or.inr rfl)) (pgs_cons (pg_name (i := 8) sc_spread.nd rfl (by first | exact Or.inl rfl | exact Or.inr rfl)) (pgs_nil))))) (pgs_nil)))) (pss_one (ps_if (pt_cmp (pc_din hu (pv 7) (pv 2))) (pss_cons (ps_set (i := 9) sc_spread.nd rfl (by first | exact Or.inl rfl | exact Or.inr rfl) (pe_op op_add (pe_ix (r := rIxT K) ix_tup (pe_dget hu (pv 2) (pv 7) (fun _ _ => rfl)) (pe_int) (fun _ _ => rfl)) (pv 8)))
      (pss_one (ps_if (PW.pt (pw_or (pt_cmp (pc_dnotin hu (pv 6) (pv 2))) (pw_or1 (pt_cmpR op_lt (pv 9) (pe_ix (r := rIxT K) ix_tup (pe_dget hu (pv 2) (pv 6) (fun _ _ => rfl)) (pe_int) (fun _ _ => rfl)) (nomark _))))) (pss_cons (ps_dput hu (pv 2) (pv 6) (pe_tup (pa_cons (pv 9) (pa_cons (pe_op op_cat (pe_lst (pa_cons (pv 5) pa_nil)) (pe_ix (r := rIxT K) ix_tup (pe_dget hu (pv 2) (pv 7) (fun _ _ => rfl)) (pe_int) (fun _ _ => rfl))) pa_nil))) rfl)
      (pss_one (ps_set (i := 4) sc_spread.nd rfl (by first | exact Or.inl rfl | exact Or.inr rfl) (pv 6)))) pss_nil))) pss_nil)))
      (pss_one (ps_if (pt_cmpR op_isN (pv 4) (pe_non) (nomark _)) (pss_one (ps_ret (pe_non))) pss_nil)))))
      pss_never), fun b Q sb k => ?_⟩
  try dsimp only
  try dsimp only at k
  obtain ⟨hok, hsz, hcv⟩ := hp
  have n1 : 1 ≤ many := hok.n1
  have n8 : many ≤ 8 := hok.n8
  have hlen := hok.len
  refine sq_forP (vs := [3]) (src_rng1 (ea_cons (ev_op (ev_var rfl) (ev_int) rv_add) ea_nil) (by omega) (by omega)) (fun i => ∀ j, j < i → (ps ropes (it ropes j best)).2 ≠ none) (fun i => [some (L Ro ropes), some (I many), some (At d), none, none, none, none, none, none, none]) (fun i => [(d, oD Be (it ropes i best))]) (fun i z => [some (L Ro ropes), some (I many), some (At d), some (I z), none, none, none, none, none, none])
    (fun j hj => absurd hj (Nat.not_lt_zero j)) (.yes rfl (.yes rfl (.yes rfl (.no (.no (.no (.no (.no (.no (.no .nil)))))))))) rfl (fun i z hz => tg_name) (fun b1 r1 t z hz hpi => ?_) (fun hpi => go_never ?_)
  · refine sq_asg (ev_non) ?_
    have hsz1 : szB (100 + t * ropes.length) (it ropes t best) := hsz.it t
    have ht2 := (rg_get hz).2
    have ht10 : t < 10 := by omega
    have hsz2 : szB 700 (it ropes t best) := hsz1.mono (by
      have h1 : t * ropes.length ≤ 10 * 60 := Nat.mul_le_mul (by omega) hlen
      omega)
    refine sq_for (vs := [5, 6, 7, 8]) (src_enum (ea_cons (ev_var rfl) ea_nil)) (fun i => [some (L Ro ropes), some (I many), some (At d), none, some (Op (((en 0 ropes).take i).foldl rx (it ropes t best, none)).2), none, none, none, none, none]) (fun i => [(d, oD Be (((en 0 ropes).take i).foldl rx (it ropes t best, none)).1)]) (fun i z => [some (L Ro ropes), some (I many), some (At d), none, some (Op (((en 0 ropes).take i).foldl rx (it ropes t best, none)).2), some (I z.1), some (I z.2.1), some (I z.2.2.1), some (I z.2.2.2), none])
      (.yes rfl (.yes rfl (.yes rfl (.no (.yes rfl (.no (.no (.no (.no (.no .nil)))))))))) rfl (fun i z hz => tg_pps (tg_name) (tg_pps3 (tg_name) (tg_name) (tg_name))) (fun b2 r2 i z hz => ?_) ?_
    · have hst : ((en 0 ropes).take (i + 1)).foldl rx (it ropes t best, none) = rx (((en 0 ropes).take i).foldl rx (it ropes t best, none)) z := by
        rw [List.take_succ, hz, List.foldl_append]
        rfl
      have hsz3 : szB 800 (((en 0 ropes).take i).foldl rx (it ropes t best, none)).1 := (hsz2.sub (i := i) (rs := ropes)).mono (by
        have : i < (en 0 ropes).length := (List.getElem?_eq_some_iff.mp hz).1
        rw [en_length] at this
        omega)
      rw [hst]
      generalize ((en 0 ropes).take i).foldl rx (it ropes t best, none) = s at hsz3 ⊢
      refine go_if (et_B (ev_din (ev_var rfl) (ev_var rfl) (.own (List.mem_cons_self ..)))) (fun h => ?_) fun h => ?_
      · obtain ⟨e, he⟩ := Option.isSome_iff_exists.mp h
        refine sq_asg (ev_op (ev_op (ev_dget (ev_var rfl) (ev_var rfl) (.own (List.mem_cons_self ..)) he) (ev_int) (rv_ixT rfl)) (ev_var rfl) rv_add) ?_
        refine go_if (et_or (et_B (ev_dnotin (ev_var rfl) (ev_var rfl) (.own (List.mem_cons_self ..)))) fun hc => (et_test (ev_op (ev_var rfl) (ev_op (ev_dget (x := (dl s.1 z.2.1).getD (0, [])) (ev_var rfl) (ev_var rfl) (.own (List.mem_cons_self ..)) (by
          cases e : dl s.1 z.2.1 with
          | none =>
            rw [e] at hc
            cases hc
          | some y => rfl)) (ev_int) (rv_ixT rfl)) rv_lt))) (fun h2 => ?_) fun h2 => ?_
        · have hx : rx s z = (dp s.1 z.2.1 (e.1 + z.2.2.2, z.1 :: e.2), some z.2.1) := by
            unfold rx
            rw [he]
            exact if_pos h2
          rw [hx]
          have hl1 : e.2.length ≤ 800 := hsz3.2 _ (dl_mem he)
          refine sq_dput (x := (e.1 + z.2.2.2, z.1 :: e.2)) (ev_tup (ea_cons (ev_var rfl) (ea_cons (ev_op (ev_lst I [_] (ea_cons (ev_var rfl) ea_nil)) (ev_op (ev_dget (ev_var rfl) (ev_var rfl) (.own (List.mem_cons_self ..)) he) (ev_int) (rv_ixT rfl)) (rv_cat ?_)) ea_nil))) (ev_var rfl) (ev_var rfl) ?_ ?_
          · dsimp only [List.length_cons, List.length_nil]
            omega
          · have := hsz3.1
            omega
          · exact go_asg (ev_var rfl) (nx_pst (.yes rfl (.yes rfl (.yes rfl (.no (.yes rfl (.no (.no (.no (.no (.no .nil)))))))))))
        · have hx : rx s z = s := by
            unfold rx
            rw [he]
            exact if_neg (by rw [h2]; decide)
          rw [hx]
          exact go_next (nx_pst (.yes rfl (.yes rfl (.yes rfl (.no (.yes rfl (.no (.no (.no (.no (.no .nil)))))))))))
      · have hx : rx s z = s := by
          unfold rx
          have : dl s.1 z.2.2.1 = none := by simpa using h
          rw [this]
        rw [hx]
        exact go_next (nx_pst (.yes rfl (.yes rfl (.yes rfl (.no (.yes rfl (.no (.no (.no (.no (.no .nil)))))))))))
    · have hfull : ((en 0 ropes).take (en 0 ropes).length).foldl rx (it ropes t best, none) = ps ropes (it ropes t best) := by rw [List.take_length]; rfl
      rw [hfull]
      refine go_if (et_test (ev_op (ev_var rfl) (ev_non) rv_isN)) (fun h => ?_) fun h => ?_
      · have hn : (ps ropes (it ropes t best)).2 = none := by simpa using h
        have he : it ropes (many.toNat + 2) best = it ropes t best := it_end hn (by omega)
        refine go_retX (P := fun _ : Unit => No) (evx_of ev_non) (fun _ => ()) ?_ ?_ (fun _ => rfl) (k.reb r1)
        · intro _ x hx
          rw [he] at hx
          rw [ps_none hn]
          exact hx
        · intro _ _
          simp
      · refine go_next (nx_and ?_ (nx_pst' (.yes rfl (.yes rfl (.yes rfl (.no (.no (.no (.no (.no (.no (.no .nil)))))))))) rfl))
        intro j hj
        by_cases e : j = t
        · subst e
          intro z
          rw [z] at h
          cases h
        · exact hpi j (by omega)
  · refine hpi (many.toNat + 1) ?_ hcv
    rw [rg_length]
    omega

abbrev N_solved : List PySem.Str := ["many", "ropes", "best", "ring", "knot"]
theorem sc_solved : FnScope N_solved ["many", "ropes"] (defScope s_solved) := ⟨rfl, rfl, rfl, by decide +kernel, rfl, by decide +kernel, by decide +kernel⟩
abbrev sp_solved (K : PySem.W.Frag) : Sp := SpP (fun a : Int × List Rope => okRs a.1 a.2 ∧ conv a.1 a.2 (zero a.1)) (fun a => [I a.1, L Ro a.2]) (fun a => Tp [Sr "stand", An])
theorem ok_solved (W : Wd K mg) : Fn Pg w K mg base 2 "solved" (sp_solved K) [] := by
  obtain ⟨fd, F⟩ := W.says.def_ 17 (d := d_solved) rfl
  refine ⟨_, fd, ["many", "ropes"], [], fn_ok F sc_solved (fun _ => rfl) (by decide) ?_, W.g 17 _ rfl, F.kp, FunD.bindsN F (fun _ _ _ _ _ _ us hl => match us, hl with | [_, _], _ => rfl), .nil⟩
  rintro cdv A outer s H E hr ⟨many, ropes⟩ hp
  try dsimp only at hp
  have hu : (cxOf CX0 Pg w K mg base N_solved "solved" (defScope s_solved) (He.fAd K d_solved.at_) cdv A outer s H E).nox.A.units + 1 < cLine := hu_of hr
  refine ⟨_, (pss_cons (ps_set (i := 2) sc_solved.nd rfl (by first | exact Or.inl rfl | exact Or.inr rfl) (pe_dc (own := [("knot", 4)]) rfl sc_solved.nd (pi_range1 (by rfl) (W.z 68 _ rfl) (pa_cons (pe_op op_add (pv 0) (pe_int)) pa_nil)) (blkOk_by (own := [("knot", 4)]) (N := N_solved) (sc := defScope s_solved) (by decide +kernel)) (fun _ _ _ _ _ => pg_name (i := 4) sc_solved.nd rfl (by first | exact Or.inl rfl | exact Or.inr rfl)) (fun _ _ _ _ _ => pts_nil) (fun _ _ _ _ _ => (pv 4)) (fun _ _ _ _ _ => (pe_tup (pa_cons (pe_int) (pa_cons (pe_lst pa_nil) pa_nil))))))
      (pss_cons (ps_set (i := 3) sc_solved.nd rfl (by first | exact Or.inl rfl | exact Or.inr rfl) (pe_fn (ok_spread W) (hr.mono (by decide)) (by rfl) (pa_cons (pv 1) (pa_cons (pv 0) (pa_cons (pv 2) pa_nil)))))
      (pss_cons (ps_if (pt_cmpR op_notN (pv 3) (pe_non) (nomark _)) (pss_one (ps_ret (pe_tup (pa_cons (pe_str) (pa_cons (pv 3) pa_nil))))) pss_nil)
      (pss_one (ps_ret (pe_tup (pa_cons (pe_str) (pa_cons (pe_lc (own := [("knot", 4)]) rfl sc_solved.nd (pi_range2 (by rfl) (W.z 68 _ rfl) (pa_cons (pe_int) (pa_cons (pe_op op_add (pv 0) (pe_int)) pa_nil))) (blkOk_by (own := [("knot", 4)]) (N := N_solved) (sc := defScope s_solved) (by decide +kernel)) (fun _ _ _ _ _ => pg_name (i := 4) sc_solved.nd rfl (by first | exact Or.inl rfl | exact Or.inr rfl)) (fun _ _ _ _ _ => pts_nil) (fun _ _ _ _ _ => (pe_op op_sub (pe_ix (r := rIxT K) ix_tup (pe_dget hu (pv 2) (pv 4) (fun _ _ => rfl)) (pe_int) (fun _ _ => rfl)) (pe_ix (r := rIxT K) ix_tup (pe_dget hu (pv 2) (pe_int) (fun _ _ => rfl)) (pe_int) (fun _ _ => rfl))))) pa_nil)))))))), fun b Q sb k => ?_⟩
  try dsimp only
  try dsimp only at k
  obtain ⟨hok, hcv⟩ := hp
  have n1 : 1 ≤ many := hok.n1
  have n8 : many ≤ 8 := hok.n8
  refine sq_asgX (evx_dcA Be (fun z => z) (fun z => (0, [])) (fun z => [some (I many), some (L Ro ropes), none, none, some (I z)]) (src_rng1 (ea_cons (ev_op (ev_var rfl) (ev_int) rv_add) ea_nil) (by omega) (by omega)) (fun z _ => tg_name) (fun z hz O => (ev_var rfl)) (fun z hz O => (ev_tup (ea_cons (ev_int) (ea_cons (ev_lst I [] ea_nil) ea_nil)))) ?_ ?_) fun d => ?_
  · rw [rg_length]
    omega
  · rw [List.map_id']
    exact rg_nodup _ _
  refine sq_asg (ev_unit (evx_call (R := []) (d, ropes, many, zero many) (ea_cons (ev_var rfl) (ea_cons (ev_var rfl) (ea_cons (ev_var rfl) ea_nil))) ⟨hok, sz_zero n8, hcv⟩)) ?_
  refine sq_no (et_test (ev_op (ev_var rfl) (ev_non) rv_notN0)) rfl ?_
  refine go_free (i := 2) rfl ?_
  have hk : ∀ z, 0 ≤ z → z ≤ many → dl (it ropes (many.toNat + 2) (zero many)) z = some ((dl (it ropes (many.toNat + 2) (zero many)) z).getD (0, [])) := fun z h0 h1 => by
    have := it_keys (rs := ropes) (dl_zero (n := many) h0 h1) (many.toNat + 2)
    cases e : dl (it ropes (many.toNat + 2) (zero many)) z with
    | none =>
      rw [e] at this
      cases this
    | some y => rfl
  refine goR k.fin (ev_tup (ea_cons (ev_str) (ea_cons (ev_an (ev_lcA I (fun z => ((dl (it ropes (many.toNat + 2) (zero many)) z).getD (0, [])).1 - ((dl (it ropes (many.toNat + 2) (zero many)) 0).getD (0, [])).1) (fun z => [some (I many), some (L Ro ropes), some (Dc Be (it ropes (many.toNat + 2) (zero many))), some No, some (I z)]) (src_rng2 (ea_cons (ev_int) (ea_cons (ev_op (ev_var rfl) (ev_int) rv_add) ea_nil)) (by omega) (by omega) (by omega) (by omega)) (fun z _ => tg_name) (fun z hz O => (ev_op (ev_op (ev_dget (ev_var rfl) (ev_var rfl) .seen (hk z ?_ ?_)) (ev_int) (rv_ixT rfl)) (ev_op (ev_dget (ev_var rfl) (ev_int) .seen (hk 0 ?_ ?_)) (ev_int) (rv_ixT rfl)) rv_sub)) ?_)) ea_nil))) rfl
  · have := (mem_rg.mp hz).1
    omega
  · have := (mem_rg.mp hz).2
    omega
  · omega
  · omega
  · rw [rg_length]
    omega

abbrev N_stand_or_ring : List PySem.Str := ["rig"]
theorem sc_stand_or_ring : FnScope N_stand_or_ring ["rig"] (defScope s_stand_or_ring) := ⟨rfl, rfl, rfl, by decide +kernel, rfl, by decide +kernel, by decide +kernel⟩
abbrev sp_stand_or_ring (K : PySem.W.Frag) : Sp := SpP (fun a : Int × List Rope => okRs a.1 a.2 ∧ conv a.1 a.2 (zero a.1)) (fun a => [Rg K a.1 a.2]) (fun a => Tp [Sr "stand", An])
theorem ok_stand_or_ring (W : Wd K mg) : Fn Pg w K mg base 3 "stand_or_ring" (sp_stand_or_ring K) [] := by
  obtain ⟨fd, F⟩ := W.says.def_ 18 (d := d_stand_or_ring) rfl
  refine ⟨_, fd, ["rig"], [], fn_ok F sc_stand_or_ring (fun _ => rfl) (by decide) ?_, W.g 18 _ rfl, F.kp, FunD.bindsN F (fun _ _ _ _ _ _ us hl => match us, hl with | [_], _ => rfl), .nil⟩
  rintro cdv A outer s H E hr ⟨n, rs⟩ hp
  try dsimp only at hp
  refine ⟨_, (pss_one (ps_ret (pe_fn (ok_solved W) (hr.mono (by decide)) (by rfl) (pa_cons (pe_mt0 (ok_Rig_many W) (hr.mono (by decide)) W.cRig (pv 0)) (pa_cons (pe_mt0 (ok_Rig_ropes W) (hr.mono (by decide)) W.cRig (pv 0)) pa_nil))))), fun b Q sb k => ?_⟩
  try dsimp only
  try dsimp only at k
  exact goR k.fin (ev_call (n, rs) (ea_cons (ev_meth (n, rs) (ev_var rfl) (by decide +kernel) (by decide +kernel) ea_nil trivial) (ea_cons (ev_meth (n, rs) (ev_var rfl) (by decide +kernel) (by decide +kernel) ea_nil trivial) ea_nil)) ⟨hp.1, hp.2⟩) rfl

abbrev N_look_at_rig : List PySem.Str := ["rig", "word", "found"]
theorem sc_look_at_rig : FnScope N_look_at_rig ["rig"] (defScope s_look_at_rig) := ⟨rfl, rfl, rfl, by decide +kernel, rfl, by decide +kernel, by decide +kernel⟩
abbrev sp_look_at_rig (K : PySem.W.Frag) : Sp := SpP (fun a : Int × List Rope => okRs a.1 a.2 ∧ conv a.1 a.2 (zero a.1)) (fun a => [Rg K a.1 a.2]) (fun a => No)
theorem ok_look_at_rig (W : Wd K mg) : Fn Pg w K mg base 4 "look_at_rig" (sp_look_at_rig K) [] := by
  obtain ⟨fd, F⟩ := W.says.def_ 19 (d := d_look_at_rig) rfl
  refine ⟨_, fd, ["rig"], [], fn_ok F sc_look_at_rig (fun _ => rfl) (by decide) ?_, W.g 19 _ rfl, F.kp, FunD.bindsN F (fun _ _ _ _ _ _ us hl => match us, hl with | [_], _ => rfl), .nil⟩
  rintro cdv A outer s H E hr ⟨n, rs⟩ hp
  try dsimp only at hp
  refine ⟨_, (pss_cons (ps_asg (pe_fn (ok_stand_or_ring W) (hr.mono (by decide)) (by rfl) (pa_cons (pv 0) pa_nil)) (pg_tup rfl (pgs_cons (pg_name (i := 1) sc_look_at_rig.nd rfl (by first | exact Or.inl rfl | exact Or.inr rfl)) (pgs_cons (pg_name (i := 2) sc_look_at_rig.nd rfl (by first | exact Or.inl rfl | exact Or.inr rfl)) (pgs_nil)))))
      (pss_one (ps_if (pt_cmpR op_eq (pv 1) (pe_str) (nomark _)) pss_never pss_nil))), fun b Q sb k => ?_⟩
  try dsimp only
  try dsimp only at k
  refine sq_asgT (vs := [1, 2]) (ev_call (n, rs) (ea_cons (ev_var rfl) ea_nil) hp) (tg_pps (tg_name) (tg_name)) ?_
  exact go_no (et_test (ev_op (ev_var rfl) (ev_str) rv_eqS)) (by decide) (nx_fin k.fin)

abbrev N_look_at_knot : List PySem.Str := ["rig", "knot"]
theorem sc_look_at_knot : FnScope N_look_at_knot ["rig", "knot"] (defScope s_look_at_knot) := ⟨rfl, rfl, rfl, by decide +kernel, rfl, by decide +kernel, by decide +kernel⟩
abbrev sp_look_at_knot (K : PySem.W.Frag) : Sp := SpP (fun a : Int × List Rope × Int => 0 ≤ a.2.2 ∧ a.2.2 ≤ a.1) (fun a => [Rg K a.1 a.2.1, I a.2.2]) (fun a => No)
theorem ok_look_at_knot (W : Wd K mg) : Fn Pg w K mg base 3 "look_at_knot" (sp_look_at_knot K) [] := by
  obtain ⟨fd, F⟩ := W.says.def_ 20 (d := d_look_at_knot) rfl
  refine ⟨_, fd, ["rig", "knot"], [], fn_ok F sc_look_at_knot (fun _ => rfl) (by decide) ?_, W.g 20 _ rfl, F.kp, FunD.bindsN F (fun _ _ _ _ _ _ us hl => match us, hl with | [_, _], _ => rfl), .nil⟩
  rintro cdv A outer s H E hr ⟨n, rs, knot⟩ hp
  try dsimp only at hp
  refine ⟨_, (pss_one (ps_if (pt_not (pt_val (pe_fn (ok_is_within W) (hr.mono (by decide)) (by rfl) (pa_cons (pv 1) (pa_cons (pe_int) (pa_cons (pe_mt0 (ok_Rig_many W) (hr.mono (by decide)) W.cRig (pv 0)) pa_nil)))))) pss_never pss_nil)), fun b Q sb k => ?_⟩
  try dsimp only
  try dsimp only at k
  exact go_no (et_not (et_B (ev_call (knot, 0, n) (ea_cons (ev_var rfl) (ea_cons (ev_int) (ea_cons (ev_meth (n, rs) (ev_var rfl) (by decide +kernel) (by decide +kernel) ea_nil trivial) ea_nil))) trivial))) (by simp [m_is_within, hp.1, hp.2]) (nx_fin k.fin)

abbrev N_Table_init : List PySem.Str := ["self", "rig", "knot", "found"]
theorem sc_Table_init : FnScope N_Table_init ["self", "rig"] (defScope s_Table___init__) := ⟨rfl, rfl, rfl, by decide +kernel, rfl, by decide +kernel, by decide +kernel⟩
abbrev sp_Table_init (K : PySem.W.Frag) : Sp := SpMk (He.ga K "Table") (fun a : Int × List Rope => okT a.1 a.2) (fun a => [Rg K a.1 a.2]) (fun a => TabO K a.1 a.2 (tabs a.1 a.2))
theorem ok_Table_init (W : Wd K mg) : FnC Pg w K mg base 5 "Table" (He.ga K "Table") (sp_Table_init K) := by
  obtain ⟨fd, F⟩ := W.says.def_ 63 (d := d_Table___init__) rfl
  refine ⟨_, fd, ["self", "rig"], fn_ok F sc_Table_init (fun _ => rfl) (by decide) ?_, W.g 58 _ rfl, W.kTable, FunD.bindsN F (fun _ _ _ _ _ _ us hl => match us, hl with | [_, _], _ => rfl)⟩
  rintro cdv A outer s H E hr ⟨self, n, rs⟩ hp
  try dsimp only at hp
  refine ⟨_, (pss_cons (ps_expr (pe_fn (ok_look_at_rig W) (hr.mono (by decide)) (by rfl) (pa_cons (pv 1) pa_nil)))
      (pss_cons (ps_fld (pv 0) (pv 1) rfl)
      (pss_cons (ps_fld (pv 0) (pe_lst pa_nil) rfl)
      (pss_one (ps_for PassesOwn.never rfl (pi_range1 (by rfl) (W.z 68 _ rfl) (pa_cons (pe_op op_add (pe_mt0 (ok_Rig_many W) (hr.mono (by decide)) W.cRig (pv 1)) (pe_int)) pa_nil)) (pg_name (i := 2) sc_Table_init.nd rfl (by first | exact Or.inl rfl | exact Or.inr rfl)) (pss_cons (ps_set (i := 3) sc_Table_init.nd rfl (by first | exact Or.inl rfl | exact Or.inr rfl) (pe_disp (pps_cons (pv 2) (pe_tup (pa_cons (pe_int) (pa_cons (pe_lst pa_nil) pa_nil))) pps_nil) (by rfl) (by rfl) (fun z => by cases z) (by decide)))
      (pss_cons (ps_expr (pe_fn (ok_spread W) (hr.mono (by decide)) (by rfl) (pa_cons (pe_mt0 (ok_Rig_ropes W) (hr.mono (by decide)) W.cRig (pv 1)) (pa_cons (pe_mt0 (ok_Rig_many W) (hr.mono (by decide)) W.cRig (pv 1)) (pa_cons (pv 3) pa_nil)))))
      (pss_one (ps_expr (pe_bm PySem.F.plainAttrs_list PySem.F.slot_list_append PySem.F.type_list_append mt_append (pe_fld (pv 0) rfl) (pa_cons (pv 3) pa_nil))))))))))), fun b Q sb k => ?_⟩
  try dsimp only
  try dsimp only at k
  have hok := hp.ok
  have n1 : 1 ≤ n := hok.n1
  have n8 : n ≤ 8 := hok.n8
  refine sq_drop (ev_call (n, rs) (ea_cons (ev_var rfl) ea_nil) ⟨hok, hp.zr⟩) ?_
  refine go_fld0 (ev_var rfl) (ev_var rfl) W.cTable W.nRig ?_
  refine go_fld1X (evx_lst (Dc Be) [] ea_nil) (fun l => [(l, oL (Dc Be) [])]) (fun l => (ev_var rfl).perm (List.Perm.swap _ _ _)) W.cTable W.nBest (by decide +kernel) fun l => ?_
  refine nx_perm (O' := [(l, oL (Dc Be) []), (self, o2 (He.ga K "Table") "own_rig" (Rg K n rs) "best" (At l))]) (List.Perm.swap _ _ _) ?_
  refine go_for (vs := [2]) (src_rng1 (ea_cons (ev_op (ev_meth (n, rs) (ev_var rfl) (by decide +kernel) (by decide +kernel) ea_nil trivial) (ev_int) rv_add) ea_nil) (by omega) (by omega)) (fun i => [some (At self), some (Rg K n rs), none, none]) (fun i => [(l, oL (Dc Be) (((rg 0 (n + 1)).take i).map (tab n rs))), (self, o2 (He.ga K "Table") "own_rig" (Rg K n rs) "best" (At l))]) (fun i z => [some (At self), some (Rg K n rs), some (I z), none]) (.yes rfl (.yes rfl (.no (.no .nil)))) rfl (fun i z hz => tg_name) (fun b1 r1 i z hz => ?_) ?_
  · have hi := rg_get hz
    refine sq_asgX (evx_disp1 (x := (0, [])) Be (fun O => ev_var rfl) (fun O => ev_tup (ea_cons (ev_int) (ea_cons (ev_lst I [] ea_nil) ea_nil)))) fun d => ?_
    refine sq_drop (ev_unit (evx_call (R := [(l, oL (Dc Be) (((rg 0 (n + 1)).take i).map (tab n rs))), (self, o2 (He.ga K "Table") "own_rig" (Rg K n rs) "best" (At l))]) (d, rs, n, one z) (ea_cons (ev_meth (n, rs) (ev_var rfl) (by decide +kernel) (by decide +kernel) ea_nil trivial) (ea_cons (ev_meth (n, rs) (ev_var rfl) (by decide +kernel) (by decide +kernel) ea_nil trivial) (ea_cons (ev_var rfl) ea_nil))) ⟨hok, sz_one z, hp.on z (by omega) (by omega)⟩)) ?_
    refine go_free (i := 3) rfl ?_
    refine go_app (ev_fld2O (ev_var rfl) (List.mem_cons_of_mem _ (List.mem_cons_self ..)) W.cTable W.nBest (by decide +kernel)) (ev_var rfl) ⟨_, _, List.mem_cons_self .., rfl⟩ ?_ (nx_pst' (.yes rfl (.yes rfl (.no (.no .nil)))) ?_)
    · rw [List.length_map]
      have := List.length_take_le i (rg 0 (n + 1))
      have e := rg_length 0 (n + 1)
      have e2 := List.length_take (i := i) (l := rg 0 (n + 1))
      omega
    · rw [List.take_succ, hz]
      simp [tab]
  · rw [List.take_length]
    exact nx_tab (res := No) rfl k rfl

abbrev N_Table_told : List PySem.Str := ["self", "upper", "lower"]
theorem sc_Table_told : FnScope N_Table_told ["self", "upper", "lower"] (defScope s_Table_told) := ⟨rfl, rfl, rfl, by decide +kernel, rfl, by decide +kernel, by decide +kernel⟩
abbrev sp_Table_told (K : PySem.W.Frag) : Sp := SpP (fun a : Int × List Rope × Int × Int => okT a.1 a.2.1 ∧ 0 ≤ a.2.2.1 ∧ a.2.2.1 ≤ a.1 ∧ 0 ≤ a.2.2.2 ∧ a.2.2.2 ≤ a.1) (fun a => [Tab K a.1 a.2.1 (tabs a.1 a.2.1), I a.2.2.1, I a.2.2.2]) (fun a => Tw (dl (tab a.1 a.2.1 a.2.2.2) a.2.2.1))
theorem ok_Table_told (W : Wd K mg) : FnM Pg w K mg base 4 (He.ga K "Table") "told" (sp_Table_told K) := by
  obtain ⟨fd, F⟩ := W.says.def_ 64 (d := d_Table_told) rfl
  refine ⟨_, fd, ["self", "upper", "lower"], fn_ok F sc_Table_told (fun _ => rfl) (by decide) ?_, He.meth_ok (W.says.fact 92 (f := .meth "Table" "told") rfl), FunD.bindsN F (fun _ _ _ _ _ _ us hl => match us, hl with | [_, _, _], _ => rfl)⟩
  rintro cdv A outer s H E hr ⟨n, rs, upper, lower⟩ hp
  try dsimp only at hp
  have hu : (cxOf CX0 Pg w K mg base N_Table_told "Table.told" (defScope s_Table_told) (He.fAd K d_Table_told.at_) cdv A outer s H E).nox.A.units + 1 < cLine := hu_of hr
  refine ⟨_, (pss_cons (ps_expr (pe_fn (ok_look_at_knot W) (hr.mono (by decide)) (by rfl) (pa_cons (pe_fld (pv 0) rfl) (pa_cons (pv 1) pa_nil))))
      (pss_cons (ps_expr (pe_fn (ok_look_at_knot W) (hr.mono (by decide)) (by rfl) (pa_cons (pe_fld (pv 0) rfl) (pa_cons (pv 2) pa_nil))))
      (pss_one (ps_ret (pe_dget2 hu (pe_ix (r := rIxL K) ix_list (pe_fld (pv 0) rfl) (pv 2) (fun _ _ => rfl)) (pv 1) (pe_tup (pa_cons (pe_non) (pa_cons (pe_non) pa_nil))) ⟨rfl, rfl, rfl, rfl⟩))))), fun b Q sb k => ?_⟩
  try dsimp only
  try dsimp only at k
  refine sq_drop (ev_call (n, rs, upper) (ea_cons (ev_fld1 (ev_var rfl) W.cTable W.nRig) (ea_cons (ev_var rfl) ea_nil)) ⟨hp.2.1, hp.2.2.1⟩) ?_
  refine sq_drop (ev_call (n, rs, lower) (ea_cons (ev_fld1 (ev_var rfl) W.cTable W.nRig) (ea_cons (ev_var rfl) ea_nil)) ⟨hp.2.2.2.1, hp.2.2.2.2⟩) ?_
  exact goR k.fin (ev_getOr Tw (ev_op (ev_fld2 (ev_var rfl) W.cTable W.nBest (by decide +kernel)) (ev_var rfl) (rv_ixL (tabs_at hp.2.2.2.1 hp.2.2.2.2))) (ev_var rfl) (ev_tup (ea_cons (ev_non) (ea_cons (ev_non) ea_nil))) .seen rfl (fun _ => rfl)) rfl

abbrev N_Table_least : List PySem.Str := ["self", "upper", "lower"]
theorem sc_Table_least : FnScope N_Table_least ["self", "upper", "lower"] (defScope s_Table_least) := ⟨rfl, rfl, rfl, by decide +kernel, rfl, by decide +kernel, by decide +kernel⟩
abbrev sp_Table_least (K : PySem.W.Frag) : Sp := SpP (fun a : Int × List Rope × Int × Int => okT a.1 a.2.1 ∧ 0 ≤ a.2.2.1 ∧ a.2.2.1 ≤ a.1 ∧ 0 ≤ a.2.2.2 ∧ a.2.2.2 ≤ a.1) (fun a => [Tab K a.1 a.2.1 (tabs a.1 a.2.1), I a.2.2.1, I a.2.2.2]) (fun a => Op ((dl (tab a.1 a.2.1 a.2.2.2) a.2.2.1).map (·.1)))
theorem ok_Table_least (W : Wd K mg) : FnM Pg w K mg base 5 (He.ga K "Table") "least" (sp_Table_least K) := by
  obtain ⟨fd, F⟩ := W.says.def_ 65 (d := d_Table_least) rfl
  refine ⟨_, fd, ["self", "upper", "lower"], fn_ok F sc_Table_least (fun _ => rfl) (by decide) ?_, He.meth_ok (W.says.fact 93 (f := .meth "Table" "least") rfl), FunD.bindsN F (fun _ _ _ _ _ _ us hl => match us, hl with | [_, _, _], _ => rfl)⟩
  rintro cdv A outer s H E hr ⟨n, rs, upper, lower⟩ hp
  try dsimp only at hp
  refine ⟨_, (pss_one (ps_ret (pe_ix (r := rIxT K) ix_tup (pe_mt (ok_Table_told W) (hr.mono (by decide)) W.cTable (pv 0) (pa_cons (pv 1) (pa_cons (pv 2) pa_nil))) (pe_int) (fun _ _ => rfl)))), fun b Q sb k => ?_⟩
  try dsimp only
  try dsimp only at k
  exact goR k.fin (ev_op (ev_meth (n, rs, upper, lower) (ev_var rfl) (by decide +kernel) (by decide +kernel) (ea_cons (ev_var rfl) (ea_cons (ev_var rfl) ea_nil)) hp) (ev_int) rv_tw0) rfl

abbrev N_Table_chain : List PySem.Str := ["self", "upper", "lower", "found"]
theorem sc_Table_chain : FnScope N_Table_chain ["self", "upper", "lower"] (defScope s_Table_chain) := ⟨rfl, rfl, rfl, by decide +kernel, rfl, by decide +kernel, by decide +kernel⟩
abbrev sp_Table_chain (K : PySem.W.Frag) : Sp := SpP (fun a : Int × List Rope × Int × Int => okT a.1 a.2.1 ∧ 0 ≤ a.2.2.1 ∧ a.2.2.1 ≤ a.1 ∧ 0 ≤ a.2.2.2 ∧ a.2.2.2 ≤ a.1) (fun a => [Tab K a.1 a.2.1 (tabs a.1 a.2.1), I a.2.2.1, I a.2.2.2]) (fun a => OL ((dl (tab a.1 a.2.1 a.2.2.2) a.2.2.1).map (·.2)))
theorem ok_Table_chain (W : Wd K mg) : FnM Pg w K mg base 5 (He.ga K "Table") "chain" (sp_Table_chain K) := by
  obtain ⟨fd, F⟩ := W.says.def_ 66 (d := d_Table_chain) rfl
  refine ⟨_, fd, ["self", "upper", "lower"], fn_ok F sc_Table_chain (fun _ => rfl) (by decide) ?_, He.meth_ok (W.says.fact 94 (f := .meth "Table" "chain") rfl), FunD.bindsN F (fun _ _ _ _ _ _ us hl => match us, hl with | [_, _, _], _ => rfl)⟩
  rintro cdv A outer s H E hr ⟨n, rs, upper, lower⟩ hp
  try dsimp only at hp
  refine ⟨_, (pss_cons (ps_set (i := 3) sc_Table_chain.nd rfl (by first | exact Or.inl rfl | exact Or.inr rfl) (pe_ix (r := rIxT K) ix_tup (pe_mt (ok_Table_told W) (hr.mono (by decide)) W.cTable (pv 0) (pa_cons (pv 1) (pa_cons (pv 2) pa_nil))) (pe_int) (fun _ _ => rfl)))
      (pss_one (ps_ret (pe_ifExp (pt_cmpR op_isN (pv 3) (pe_non) (nomark _)) (pe_non) (pe_callTy (r := rListQ K) call_list_of (by rfl) (W.z 63 _ rfl) (by decide +kernel) (pa_cons (pv 3) pa_nil)))))), fun b Q sb k => ?_⟩
  try dsimp only
  try dsimp only at k
  refine sq_asg (ev_op (ev_meth (n, rs, upper, lower) (ev_var rfl) (by decide +kernel) (by decide +kernel) (ea_cons (ev_var rfl) (ea_cons (ev_var rfl) ea_nil)) hp) (ev_int) rv_tw1) ?_
  generalize dl (tab n rs lower) upper = o at k ⊢
  cases o with
  | none => exact goR k.fin (ev_if (R := No) (et_test (ev_op (ev_var rfl) (ev_non) (rv_isNL (o := none)))) (fun _ => (ev_non)) (fun h => by cases h)) rfl
  | some e => exact goR k.fin (ev_if (R := L I e.2) (et_test (ev_op (ev_var rfl) (ev_non) (rv_isNL (o := some e.2)))) (fun h => by cases h) (fun _ => (ev_cb (ea_cons (ev_var rfl) ea_nil) rc_listL))) rfl

end
end Rb

set_option Elab.async false
set_option linter.all false
set_option maxRecDepth 100000
set_option maxHeartbeats 4000000
namespace Rb
open PySem PySem.Spec PyProof.Rows L2
section
variable {b : Bs} {G G' G1 : List (Option HP)} {O O1 O2 O' : List Ow} {P P0 P1 P2 : HP} {tt : TT} {t u : TS} {D : Ends} {ta tb te td ty tk tv : TE} {K : PySem.W.Frag} {α β ζ : Type} {f : α → HP} {kvs : List (Int × α)} {xs : List α}
/-- [.. for .. in ..], the new list owned -/
theorem evx_lc {wi : TI} {g : TG} {zs : List ζ} {y : ζ → HP} {vs : List Nat} (f : α → HP) (c : ζ → Bool) (v : ζ → α) (Gt : ζ → List (Option HP)) (hs : Src b wi G O zs y O1) (ht : ∀ z ∈ zs, Tg g (y z) (wipeG G vs) (Gt z) vs)
    (hc : ∀ z ∈ zs, ∀ O, EvT b tt (Gt z) O (c z) O) (he : ∀ z ∈ zs, c z = true → ∀ O, Ev b te (Gt z) O (f (v z)) O) (hl : zs.length < 100000) : EvX b (tLc wi g tt te vs) G O At (fun l => (l, oL f ((zs.filter c).map v)) :: O1) := fun σ B H S Q k =>
  hs σ B H S _ fun J B1 H1 s1 S1 W Dl hD => by
  have S0 : Sta b G O1 σ B1 H1 := S1
  have St := (S1.own (o := oL f ([] : List α)) hD ⟨[], rfl, .nil⟩).wipe vs
  refine ⟨fun i m H' => m = zs.length - i ∧ i ≤ zs.length ∧ ∃ B', Same B1 B' ∧ Sta b (wipeG G vs) ((Dl, oL f (((zs.take i).filter c).map v)) :: O1) (L2.wipe σ vs) B' H', ⟨_, rfl, Nat.zero_le _, B1, Same.refl _, St⟩, ?_⟩
  rintro i m H' ⟨rfl, hi, B', sB, S'⟩
  by_cases hlt : i < zs.length
  · refine .inr ⟨W.go i H' hlt (sB.trans S'.bh) S'.hh, fun H2 => ∃ B2, Same B1 B2 ∧ Sta b (wipeG G vs) ((Dl, oL f (((zs.take (i + 1)).filter c).map v)) :: O1) (L2.wipe σ vs) B2 H2, fun H2 p2 => ⟨zs.length - (i + 1), by omega, rfl, hlt, p2⟩, fun x H2 yl => ?_⟩
    have hz : zs[i]? = some zs[i] := by simp [hlt]
    have hm : zs[i] ∈ zs := List.getElem_mem hlt
    have et := take_succ_filter c zs i zs[i] hz
    obtain ⟨B2, fr, hx⟩ := W.yld i _ H' x H2 hz (sB.trans S'.bh) S'.hh yl B' sB S'.bh
    have S2 := S'.step fr
    refine ht _ hm b _ _ B2 H2 x S2 hx _ fun σ3 w3 S3 => ⟨by rw [w3]; exact wipe_wipe vs vs (fun _ h => h), hc _ hm _ σ3 B2 H2 S3 _ fun B4 H4 s4 S4 => ?_⟩
    have s24 : Same B1 B4 := (sB.trans fr.bb).trans s4
    cases e : c zs[i] with
    | false =>
      refine iteF ⟨B4, s24, ?_⟩
      rw [et, e]
      simp only [Bool.false_eq_true, if_false, List.append_nil]
      exact S'.slots (fr.bb.trans s4) S4
    | true =>
      refine iteT (he _ hm e _ σ3 B4 H4 S4 _ fun w B5 H5 s5 S5 hw => ?_)
      obtain ⟨_, h2, u, hu, ws, rfl, hp⟩ := S5.ow _ (List.mem_cons_self ..)
      refine ⟨ws, hu, ?_, B5, s24.trans s5, ?_⟩
      · rw [← hp.length, List.length_map]
        have h1 := List.length_filter_le c (zs.take i)
        have h2 : (zs.take i).length ≤ zs.length := by rw [List.length_take]; omega
        exact sz_lt' (by omega)
      · rw [et, e]
        simp only [if_true, List.map_append, List.map_cons, List.map_nil]
        exact (S'.slots ((fr.bb.trans s4).trans s5) S5).put ⟨_, rfl, hp.snoc hw⟩
  · have e : i = zs.length := by omega
    subst e
    refine .inl ⟨W.stop H' (sB.trans S'.bh) S'.hh, ?_⟩
    rw [List.take_length] at S'
    exact k Dl _ B' H' (s1.trans sB) (S0.slots sB S') rfl
theorem evx_lcA {wi : TI} {g : TG} {zs : List ζ} {y : ζ → HP} {vs : List Nat} (f : α → HP) (v : ζ → α) (Gt : ζ → List (Option HP)) (hs : Src b wi G O zs y O1) (ht : ∀ z ∈ zs, Tg g (y z) (wipeG G vs) (Gt z) vs)
    (he : ∀ z ∈ zs, ∀ O, Ev b te (Gt z) O (f (v z)) O) (hl : zs.length < 100000) : EvX b (tLc wi g tYes te vs) G O At (fun l => (l, oL f (zs.map v)) :: O1) := by
  have := evx_lc f (fun _ => true) v Gt hs ht (fun z _ O => ev_yes) (fun z hz _ O => he z hz O) hl
  simpa only [filter_yes] using this
/-- what is new is handed over at once -/
theorem ev_unown {o : OP} (h : EvX b te G O At (fun a => (a, o) :: O')) : Ev b te G O (Ob o) O' := fun σ B H S Q k => h σ B H S Q fun a v B1 H1 s1 S1 hv => by
  obtain ⟨B2, S2, h2, s2⟩ := S1.free
  cases (show v = .ref a from hv)
  exact k _ B2 H1 (s1.trans s2) S2 h2
/-- a list of pairs, or a tuple of them -/
def SL : Bool → List (Int × Int) → HP
  | false, sl => L PII sl
  | true, sl => Tu PII sl
abbrev rDictP (K : PySem.W.Frag) : List V → Hp → VK → Prop := fun xs H Q => ∃ (a : Addr) (ps : List Addr) (kvs : List (Key × V)), xs = [.ref a] ∧ SqL K H a (ps.map V.ref) ∧ Paired (fun p kv => SqT K H p [kV kv.1, kv.2]) ps kvs ∧
    ∀ p, H p = none → Q (.ref p) (upd H p (.dK (mergeK [] kvs)))
theorem merge_new : ∀ (l acc : List (Key × V)), ((acc ++ l).map (·.1)).Nodup → mergeK acc l = acc ++ l
  | [], acc, _ => by simp [mergeK]
  | p :: l, acc, h => by
    have hn : ¬ (acc.any fun kv => decide (kv.1 = p.1)) = true := by
      intro z
      obtain ⟨q, hq, e⟩ := List.any_eq_true.mp z
      rw [List.map_append, List.nodup_append] at h
      exact h.2.2 q.1 (List.mem_map.mpr ⟨q, hq, rfl⟩) p.1 (by simp) (of_decide_eq_true e)
    show mergeK (putK acc p.1 p.2) l = _
    have e : putK acc p.1 p.2 = acc ++ [p] := by
      unfold putK
      rw [if_neg hn]
    rw [e, merge_new l (acc ++ [p]) (by simpa using h)]
    simp
theorem pairs_refs {B H : Hp} (s : Same B H) : ∀ {sl : List (Int × Int)} {vs : List V}, Paired (fun x v => (PII x).p B v) sl vs → ∃ ps : List Addr, vs = ps.map V.ref ∧ Paired (fun p kv => SqT K H p [kV kv.1, kv.2]) ps (sl.map fun z => ((Sum.inl z.1, V.int z.2) : Key × V))
  | [], _, .nil => ⟨[], rfl, .nil⟩
  | z :: sl, _, .cons h t => by
    obtain ⟨ps, rfl, hp⟩ := pairs_refs s t
    obtain ⟨a, u, rfl, ha, ws, rfl, hw⟩ := h
    obtain ⟨x, y, rfl, hx, hy⟩ := pps2 hw
    cases (show x = .int z.1 from hx)
    cases (show y = .int z.2 from hy)
    exact ⟨a :: ps, rfl, .cons (SqT.of (s a _ ha)) hp⟩
theorem pd_ints {B : Hp} : ∀ (sl : List (Int × Int)), Paired (fun x v => v.1 = Sum.inl x.1 ∧ (I x.2).p B v.2) sl (sl.map fun z => ((Sum.inl z.1, V.int z.2) : Key × V))
  | [] => .nil
  | z :: sl => .cons ⟨rfl, rfl⟩ (pd_ints sl)
/-- dict(pairs), unlike keys, owned -/
theorem evx_dictP {ta : TA} {sl : List (Int × Int)} (h : EvA b ta G O [L PII sl] O1) (hn : (sl.map (·.1)).Nodup) : EvX b (tCB (rDictP K) ta) G O At (fun d => (d, oD I sl) :: O1) := fun σ B H S Q k =>
  h σ B H S _ fun vs B1 H1 s1 S1 hv => by
  obtain ⟨v, rfl, a, u, rfl, ha, ws, rfl, hp⟩ := pps1 hv
  obtain ⟨ps, rfl, hps⟩ := pairs_refs (K := K) S1.bh hp
  refine ⟨a, ps, _, rfl, SqL.of (S1.bh a _ ha), hps, fun p hpn => ?_⟩
  rw [merge_new _ [] (by
    rw [List.nil_append, List.map_map]
    show (sl.map fun z => (Sum.inl z.1 : Key)).Nodup
    have : (sl.map fun z => (Sum.inl z.1 : Key)) = (sl.map (·.1)).map Sum.inl := by rw [List.map_map]; rfl
    rw [this]
    unfold List.Nodup at hn ⊢
    rw [List.pairwise_map]
    exact hn.imp fun h e => h (Sum.inl.inj e)), List.nil_append]
  exact k p _ B1 _ s1 (S1.own hpn ⟨_, rfl, pd_ints sl⟩) rfl
/-! ### in order -/
def srt (l : List Int) : List Int := l.mergeSort fun a c => decide (a ≤ c)
theorem srt_sorted (l : List Int) : (srt l).Pairwise (· ≤ ·) := by
  have h := List.pairwise_mergeSort (le := fun a c : Int => decide (a ≤ c)) (fun a c d h1 h2 => by simp at *; omega) (fun a c => by simp; omega) l
  exact h.imp fun h => by simpa using h
theorem srt_perm (l : List Int) : (srt l).Perm l := List.mergeSort_perm l _
theorem srt_eq {ys l : List Int} (h : ys.Perm l) (s : ys.Pairwise (· ≤ ·)) : ys = srt l :=
  (h.trans (srt_perm l).symm).eq_of_pairwise (fun a c _ _ h1 h2 => Int.le_antisymm h1 h2) s (srt_sorted l)
theorem srt_id {l : List Int} (s : l.Pairwise (· ≤ ·)) : srt l = l := (srt_eq (List.Perm.refl l) s).symm
theorem pd_keys {B : Hp} : ∀ {kvs : List (Int × α)} {vs : List (Key × V)}, Paired (fun x v => v.1 = Sum.inl x.1 ∧ (f x.2).p B v.2) kvs vs → vs.map (·.1) = (kvs.map (·.1)).map Sum.inl
  | [], _, .nil => rfl
  | z :: l, _, .cons h t => by simp [h.1, pd_keys t]
abbrev rSortedDI : List V → Hp → VK → Prop := fun xs H Q => ∃ (a : Addr) (kvs : List (Key × V)) (ks : List Int), xs = [.ref a] ∧ Rd H a (.dK kvs) ∧ kvs.map (·.1) = ks.map Sum.inl ∧ ks.length < 64 ∧
    ∀ (ys : List Int) (p : Addr), ys.Perm ks → ys.Pairwise (· ≤ ·) → H p = none → Q (.ref p) (upd H p (.lst (ys.map V.int)))
theorem rc_new {S : Hp → Hp → Prop} {B H : Hp} {Q : VK} {p : Addr} (s : Same B H) (hp : H p = none) (ns : List Int) (k : ∀ z B' H', Fr B H B' H' → (L I ns).p B' z → Q z H') : Q (.ref p) (upd H p (.lst (ns.map V.int))) :=
  k _ _ _ (Fr.new s hp) ⟨p, _, rfl, upd_same, _, rfl, Ip ns⟩
theorem rc_sortedD {d : Addr} (ho : (d, oD f kvs) ∈ O) (hl : kvs.length < 64) : RC (Hold O) rSortedDI [At d] (L I (srt (kvs.map (·.1)))) := fun vs B H s S h Q k => by
  obtain ⟨v, rfl, hv⟩ := pps1 h
  cases (show v = .ref d from hv)
  obtain ⟨_, u, hu, ws, rfl, hp⟩ := S _ ho
  refine ⟨d, ws, kvs.map (·.1), rfl, Or.inl hu, pd_keys hp, by simpa using hl, fun ys p h1 h2 h3 => ?_⟩
  rw [srt_eq h1 h2]
  exact rc_new (S := fun _ _ => True) s h3 _ k
theorem rc_sorted {S : Hp → Hp → Prop} {ns : List Int} (hl : ns.length < 64) : RC S (rSorted K) [L I ns] (L I (srt ns)) := fun vs B H s _ h Q k => by
  obtain ⟨v, rfl, a, u, rfl, ha, ws, rfl, hp⟩ := pps1 h
  cases pI hp
  refine ⟨a, ns, rfl, SqL.of (s a _ ha), hl, fun ys p h1 h2 h3 => ?_⟩
  rw [srt_eq h1 h2]
  exact rc_new (S := fun _ _ => True) s h3 _ k
/-! ### a call that sees an owned object -/
structure Flat (P : HP) : Prop where
  h : ∀ {B B' : Hp} {v : V}, P.p B v → P.p B' v
structure FlatO (o : OP) : Prop where
  h : ∀ {B B' : Hp} {u : HO}, o.q B u → o.q B' u
theorem flat_B {c : Bool} : Flat (Bo c) := ⟨fun h => h⟩
theorem flat_At {a : Addr} : Flat (At a) := ⟨fun h => h⟩
theorem flat_oI {ns : List Int} : FlatO (oL I ns) := ⟨fun ⟨vs, e, h⟩ => ⟨vs, e, by rw [pI h]; exact Ip ns⟩⟩
theorem evx_callV {pre : α → Prop} {args : α → List HP} {res : α → β → HP} {own' : α → β → List Ow} {E : XK} {ta : TA} {Ps : List HP} {l : Addr} {o : OP} (a : α) (h : EvA b ta G O Ps O1) (hp : pre a) (ho : (l, o) ∈ O1)
    (hv : ∀ B B' vs, Same B B' → (Ob o).p B' (.ref l) → PPs B Ps vs → PPs B' (args a) vs) (fr : ∀ y, Flat (res a y)) (fo : ∀ y, ∀ x ∈ own' a y, FlatO x.2) :
    EvX b (tCall (Spx pre args (fun _ => []) res own') [] E ta) G O (res a) (fun y => own' a y ++ O1) := fun σ B0 H0 S0 Q k => h σ B0 H0 S0 _ fun vs B H s0 S hvs => by
  rw [List.append_nil]
  obtain ⟨h1, h2, u, h3, h4⟩ := S.ow _ ho
  have sB : Same B (upd B l u) := fun c x e => by
    rw [upd_ne (ne_of_none e h2)]
    exact e
  have sH : Same (upd B l u) H := fun c x e => by
    by_cases hc : c = l
    · subst hc
      rw [upd_same] at e
      rw [← e]
      exact h3
    · rw [upd_ne hc] at e
      exact S.bh c x e
  refine ⟨a, upd B l u, hp, sH, hv B _ vs sB ⟨l, u, rfl, upd_same, o.m sB h4⟩ hvs, fun x hx => by simp at hx, by simp, fun y v B2 H2 bb bh kp fz hoo nd nw hq => ?_⟩
  have kp : ∀ c o, H c = some o → H2 c = some o := fun c o e => kp c o e (by simp)
  have fz : ∀ c, H c ≠ none → B2 c = (upd B l u) c := fun c e => fz c e (by simp)
  let B3 : Hp := fun c => if c = l then none else B2 c
  have e3 : ∀ c, c ≠ l → B3 c = B2 c := fun c hc => by show (if c = l then none else B2 c) = _; rw [if_neg hc]
  have el : B3 l = none := by show (if l = l then none else B2 l) = _; rw [if_pos rfl]
  have s3 : Same B B3 := fun c x e => by
    have hc : c ≠ l := ne_of_none e h2
    rw [e3 c hc]
    exact bb c x (sB c x e)
  have s32 : Same B3 H2 := fun c x e => by
    by_cases hc : c = l
    · rw [hc, el] at e
      cases e
    · rw [e3 c hc] at e
      exact bh c x e
  have nl : ∀ x ∈ own' a y, x.1 ≠ l ∧ H x.1 = none := fun x hx => by
    rcases nw x.1 (List.mem_map.mpr ⟨x, hx, rfl⟩) with hm | hm
    · simp at hm
    · exact ⟨fun e => (by rw [e, h3] at hm; cases hm), hm⟩
  refine k y v B3 H2 (s0.trans s3) ⟨S.len, S.bb.trans s3, s32, fun c x e => kp c x (S.hh c x e), fun c hc => ?_, fun i P e => ?_, fun x hx => ?_, ?_⟩ ((fr y).h hq)
  · have hcl : c ≠ l := fun e => hc (by rw [e]; exact h1)
    have hH : H c ≠ none := by
      cases e : b.H0 c with
      | none => exact absurd e hc
      | some o =>
        rw [S.hh c o e]
        simp
    rw [e3 c hcl, fz c hH, upd_ne hcl, S.fz c hc]
  · obtain ⟨w, e1, q⟩ := S.sl i P e
    exact ⟨w, e1, P.m s3 q⟩
  · rcases List.mem_append.mp hx with hx | hx
    · obtain ⟨q1, w, q2, q3⟩ := hoo x hx
      obtain ⟨n1, n2⟩ := nl x hx
      exact ⟨S.hh.free n2, by rw [e3 _ n1, q1], w, q2, (fo y x hx).h q3⟩
    · obtain ⟨g1, g2, w, g3, g4⟩ := S.ow x hx
      refine ⟨g1, ?_, w, kp _ _ g3, x.2.m s3 g4⟩
      by_cases hc : x.1 = l
      · rw [hc, el]
      · rw [e3 _ hc, fz x.1 (by rw [g3]; simp), upd_ne hc, g2]
  · rw [List.map_append, List.nodup_append]
    refine ⟨nd, S.nd, fun c hc d hd e => ?_⟩
    subst e
    obtain ⟨x, hx, e1⟩ := List.mem_map.mp hc
    obtain ⟨z, hz, e2⟩ := List.mem_map.mp hd
    obtain ⟨_, _, w, g3, _⟩ := S.ow z hz
    rw [e2, ← e1, (nl x hx).2] at g3
    cases g3
theorem ev_callV {pre : α → Prop} {args : α → List HP} {res : α → HP} {E : XK} {ta : TA} {Ps : List HP} {l : Addr} {o : OP} (a : α) (h : EvA b ta G O Ps O1) (hp : pre a) (ho : (l, o) ∈ O1)
    (hv : ∀ B B' vs, Same B B' → (Ob o).p B' (.ref l) → PPs B Ps vs → PPs B' (args a) vs) (fr : Flat (res a)) : Ev b (tCall (SpP pre args res) [] E ta) G O (res a) O1 := fun σ B H S Q k =>
  evx_callV a h hp ho hv (fun _ => fr) (fun _ x hx => by simp at hx) σ B H S Q fun y v B' H' s S' q => k v B' H' s S' q
/-- arguments one behind the other, each new -/
theorem eax_both {γ : Type} {tr : TA} {P : β → HP} {Oy : β → List Ow} {Ps : γ → List HP} {O2 : β → γ → List Ow} (h : EvX b te G O P Oy) (hr : ∀ y, EvAX b tr G (Oy y) Ps (O2 y)) : EvAX b (tCons te tr) G O (fun z : β × γ => P z.1 :: Ps z.2) (fun z => O2 z.1 z.2) := fun σ B H S Q k =>
  h σ B H S _ fun y v B1 H1 s1 S1 hv => hr y σ B1 H1 S1 _ fun z vs B2 H2 s2 S2 hvs => k (y, z) _ B2 H2 (s1.trans s2) S2 (.cons ((P y).m s2 hv) hvs)
theorem EvX.perm {P : β → HP} {Oy O2 : β → List Ow} (h : EvX b te G O P Oy) (e : ∀ y, (O2 y).Perm (Oy y)) : EvX b te G O P O2 := fun σ B H S Q k => h σ B H S Q fun y v B' H' s S' q => k y v B' H' s (S'.perm (e y)) q
theorem EvX.pre {P : β → HP} {Oy : β → List Ow} (e : O1.Perm O) (h : EvX b te G O1 P Oy) : EvX b te G O P Oy := fun σ B H S Q k => h σ B H (S.perm e) Q k
theorem Ev.pre (e : O1.Perm O) (h : Ev b te G O1 P O2) : Ev b te G O P O2 := fun σ B H S Q k => h σ B H (S.perm e) Q k
theorem sq_less (w : ∀ x ∈ O', x ∈ O) (n : (ad O).Nodup → (ad O').Nodup) (h : Go b t G O' D) : Go b t G O D := fun σ B H S => h σ B H (S.owned w (n S.nd))
theorem Ev.less (h : Ev b te G O P O1) (w : ∀ x ∈ O', x ∈ O1) (n : (ad O1).Nodup → (ad O').Nodup) : Ev b te G O P O' := fun σ B H S Q k => h σ B H S Q fun v B' H' s S' q => k v B' H' s (S'.owned w (n S'.nd)) q
theorem goX {res : β → HP} {own' : β → List Ow} (y : β) (k : FinX b res own' D.rt) (h : Ev b te G O P O1) (e : P = res y) (ho : own' y = O1) : Go b (tRet te) G O D :=
  go_retX (evx_of h) (fun _ => y) (fun _ x hx => ho ▸ hx) (fun _ hn => ho ▸ hn) (fun _ => e) k
theorem op_I {o : Option Int} (h : (!o.isNone) = true) : Op o = I (o.getD 0) := by
  cases o with
  | none => cases h
  | some x => rfl
/-- [z for z in .. if ..] -/
theorem ev_lcF {wi : TI} {g : TG} {zs : List α} {y : α → HP} {vs : List Nat} (f : α → HP) (c : α → Bool) (Gt : α → List (Option HP)) (hs : Src b wi G O zs y O1) (ht : ∀ z ∈ zs, Tg g (y z) (wipeG G vs) (Gt z) vs)
    (hc : ∀ z ∈ zs, ∀ O, EvT b tt (Gt z) O (c z) O) (he : ∀ z ∈ zs, c z = true → ∀ O, Ev b te (Gt z) O (f z) O) (hl : zs.length < 100000) : Ev b (tLc wi g tt te vs) G O (L f (zs.filter c)) O1 := by
  have := ev_lc f c (fun z => z) Gt hs ht hc he hl
  rwa [List.map_id'] at this
end
end Rb

set_option Elab.async false
set_option linter.all false
set_option maxRecDepth 100000
set_option maxHeartbeats 4000000
/-! What falls compute, in plain Lean. -/
namespace Rb
open PySem PySem.Spec PyProof.Rows L2
abbrev Slips := List (Int × Int)
abbrev Pulls := List (Int × Option Int)
abbrev Stops := List (Int × List Int)
structure okSl (n : Int) (sl : Slips) : Prop where
  rng : ∀ z ∈ sl, 1 ≤ z.1 ∧ z.1 ≤ n
  nd : (sl.map (·.1)).Nodup
  len : sl.length ≤ 1000
def stop1 (n : Int) (rs : List Rope) (z : Int × Int) : Option (Int × List Int) := match dl (tab n rs z.1) 0 with
  | some e => if z.2 < 0 - e.1 then some (z.1, e.2) else none
  | none => none
def m_stops (n : Int) (rs : List Rope) (sl : Slips) : Stops := sl.filterMap (stop1 n rs)
def m_ends (rs : List Rope) (sl : Slips) (st : Stops) : Slips := st.foldl (fun acc z => dp acc z.1 (0 - sm rs z.2)) sl
def cap1 (ends : Slips) (z : Int × Int) : Int := if (dl ends z.1).getD z.2 < z.2 then (dl ends z.1).getD z.2 else z.2
def m_caps (stand : List Int) (ends : Slips) : Slips := (0, 0) :: (en 1 stand).map fun z => (z.1, cap1 ends z)
def m_low (n : Int) (rs : List Rope) (caps : Slips) (c : Int) : List (Int × Option Int) := caps.map fun kv => (kv.2, (dl (tab n rs kv.1) c).map (·.1))
def m_some (l : List (Int × Option Int)) : List Int := (l.filter fun z => !z.2.isNone).map fun z => z.1 + z.2.getD 0
def fall1 (n : Int) (rs : List Rope) (stand : List Int) (ends : Slips) (c : Int) : Int := imin (m_some (m_low n rs (m_caps stand ends) c))
def m_fallen (n : Int) (rs : List Rope) (stand : List Int) (ends : Slips) : List Int := (rg 1 ((stand.length : Int) + 1)).map (fall1 n rs stand ends)
def m_down (n : Int) (stand hs : List Int) : List Int := (rg 1 (n + 1)).filter fun c => decide (hi hs c < hi stand c)
def ends1 (hs : List Int) (ends : Slips) (c : Int) : Bool := (dl ends c).isSome && decide (hi hs c = (dl ends c).getD 0)
def pull0 (hs down : List Int) (ends : Slips) : Pulls := (down.filter (ends1 hs ends)).map fun c => (c, none)
def pstep (hs down : List Int) (acc : Pulls) (z : Int × Rope) : Pulls := if (decide (z.2.1 ∈ down) && (!(dl acc z.2.1).isSome && ((dl acc z.2.2.1).isSome && decide (room z.2 hs = 0)))) = true then dp acc z.2.1 (some z.1) else acc
def ppass (rs : List Rope) (hs down : List Int) (acc : Pulls) : Pulls := (en 0 rs).foldl (pstep hs down) acc
def pit (rs : List Rope) (hs down : List Int) : Nat → Pulls → Pulls
  | 0, acc => acc
  | t + 1, acc => ppass rs hs down (pit rs hs down t acc)
def pfin (n : Int) (rs : List Rope) (stand hs : List Int) (ends : Slips) : Pulls := pit rs hs (m_down n stand hs) (m_down n stand hs).length (pull0 hs (m_down n stand hs) ends)
def m_pulls (n : Int) (rs : List Rope) (stand hs : List Int) (ends : Slips) : Pulls := (m_down n stand hs).map fun c => (c, (dl (pfin n rs stand hs ends) c).getD none)
def neg (hs : List Int) : List Int := hs.map fun h => 0 - h
def negS (sl : Slips) : Slips := sl.map fun z => (z.1, 0 - z.2)
def revS (st : Stops) : Stops := st.map fun z => (z.1, z.2.reverse)
def f_ends (n : Int) (rs : List Rope) (sl : Slips) : Slips := m_ends rs sl (m_stops n rs sl)
def f_hs (n : Int) (rs : List Rope) (stand : List Int) (sl : Slips) : List Int := m_fallen n rs stand (f_ends n rs sl)
def f_pulls (n : Int) (rs : List Rope) (stand : List Int) (sl : Slips) : Pulls := m_pulls n rs stand (f_hs n rs stand sl) (f_ends n rs sl)
/-- what a fall wants, all told -/
structure okF (n : Int) (rs : List Rope) (stand : List Int) (sl : Slips) : Prop where
  t : okT n rs
  s1 : isSt n rs stand
  ks : okSl n sl
  ch : ∀ z ∈ m_stops n rs sl, okC rs z.2
  dn : ∀ c ∈ m_down n stand (f_hs n rs stand sl), (dl (pfin n rs stand (f_hs n rs stand sl) (f_ends n rs sl)) c).isSome = true
/-- what is_fall looks at -/
def okPull (rs : List Rope) (hs down : List Int) (ends : Slips) (c : Int) : Option Int → Prop
  | none => ends1 hs ends c = true
  | some k => 0 ≤ k ∧ k < rs.length ∧ (rp rs k).1 = c ∧ (rp rs k).2.1 ∈ down ∧ room (rp rs k) hs = 0
def wk (rs : List Rope) (pu : Pulls) (c : Int) : Int := match dl pu c with
  | some (some k) => (rp rs k).2.1
  | _ => c
def wkn (rs : List Rope) (pu : Pulls) : Nat → Int → Int
  | 0, c => c
  | t + 1, c => wk rs pu (wkn rs pu t c)
structure okPulls (n : Int) (rs : List Rope) (hs down : List Int) (ends : Slips) (pu : Pulls) : Prop where
  keys : pu.map (·.1) = down
  ord : down.Pairwise (· ≤ ·)
  len : down.length ≤ 8
  rng : ∀ c ∈ down, 1 ≤ c ∧ c ≤ n
  ok : ∀ z ∈ pu, okPull rs hs down ends z.1 z.2
  fin : ∀ c ∈ down, dl pu (wkn rs pu down.length c) = some none
structure okStop (n : Int) (rs : List Rope) (sl : Slips) (hs : List Int) (z : Int × List Int) : Prop where
  lo : 1 ≤ z.1
  up : z.1 ≤ n
  ch : okC rs z.2
  le : ld rs z.2 0 z.1 = true
  to : ∃ to, dl sl z.1 = some to ∧ to < 0 - sm rs z.2
  at_ : hi hs z.1 = 0 - sm rs z.2
structure okIs (n : Int) (rs : List Rope) (stand : List Int) (sl : Slips) (hs : List Int) (pu : Pulls) (st : Stops) : Prop where
  ok : okRs n rs
  s1 : isSt n rs stand
  s2 : isSt n rs hs
  ks : okSl n sl
  le : ∀ c, 1 ≤ c → c ≤ n → hi hs c ≤ hi stand c
  kst : ∀ z ∈ st, okStop n rs sl hs z
  len : st.length ≤ 1000
  en : ∀ z ∈ m_ends rs sl st, hi hs z.1 ≤ z.2
  kpu : okPulls n rs hs (m_down n stand hs) (m_ends rs sl st) pu
theorem hi_at1 {hs : List Int} {k : Int} (h0 : 1 ≤ k) (h1 : k ≤ hs.length) : atI hs (k - 1) = some (hi hs k) := by
  obtain ⟨j, rfl⟩ : ∃ j : Nat, k = j + 1 := ⟨(k - 1).toNat, by omega⟩
  have e : ((j : Int) + 1 - 1) = (j : Int) := by omega
  have hj : j < hs.length := by omega
  have e2 : ((j : Int) + 1).toNat = j + 1 := by omega
  have : ixN hs.length (j : Int) = some j := by
    unfold ixN
    simp
    omega
  rw [e]
  unfold atI hi
  rw [this, e2]
  simp [hj]
theorem hi_neg (hs : List Int) (k : Int) : hi (neg hs) k = 0 - hi hs k := by
  unfold hi neg
  cases e : k.toNat with
  | zero => simp
  | succ j => simp [List.getElem?_map]; cases hs[j]? <;> simp
theorem rg_ord (lo n : Int) : (rg lo n).Pairwise (· ≤ ·) := by
  unfold rg
  rw [List.pairwise_map]
  exact List.pairwise_lt_range.imp fun h => by omega
theorem stop1_key {n : Int} {rs : List Rope} {z : Int × Int} {p : Int × List Int} (h : stop1 n rs z = some p) : p.1 = z.1 := by
  unfold stop1 at h
  split at h
  · split at h
    · cases h
      rfl
    · cases h
  · cases h
theorem stops_key {n : Int} {rs : List Rope} {l : Slips} {p : Int × List Int} (h : p ∈ m_stops n rs l) : ∃ q ∈ l, q.1 = p.1 := by
  obtain ⟨q, hq, e⟩ := List.mem_filterMap.mp h
  exact ⟨q, hq, (stop1_key e).symm⟩
theorem nd_take {α : Type} {l : List (Int × α)} (h : (l.map (·.1)).Nodup) {i : Nat} {z : Int × α} (e : l[i]? = some z) : ∀ q ∈ l.take i, q.1 ≠ z.1 := by
  intro q hq he
  obtain ⟨j, hj⟩ := List.mem_iff_getElem?.mp hq
  rw [List.getElem?_take] at hj
  split at hj
  · rename_i hji
    have h1 : (l.map (·.1))[j]? = some q.1 := by rw [List.getElem?_map, hj]; rfl
    have h2 : (l.map (·.1))[i]? = some z.1 := by rw [List.getElem?_map, e]; rfl
    have hi : i < (l.map (·.1)).length := (List.getElem?_eq_some_iff.mp h2).1
    have hj2 : j < (l.map (·.1)).length := (List.getElem?_eq_some_iff.mp h1).1
    have := (List.pairwise_iff_getElem.mp h) j i hj2 hi hji
    rw [(List.getElem?_eq_some_iff.mp h1).2, (List.getElem?_eq_some_iff.mp h2).2] at this
    exact this he
  · cases hj
theorem stops_take {n : Int} {rs : List Rope} {sl : Slips} {i : Nat} {z : Int × Int} (hz : sl[i]? = some z) : m_stops n rs (sl.take (i + 1)) = m_stops n rs (sl.take i) ++ (stop1 n rs z).toList := by
  unfold m_stops
  rw [List.take_succ, hz, List.filterMap_append]
  cases h : stop1 n rs z <;> simp [h]
theorem fold_len {rs : List Rope} : ∀ (st : Stops) (sl : Slips), (m_ends rs sl st).length ≤ sl.length + st.length
  | [], sl => by simp [m_ends]
  | z :: st, sl => by
    have h1 := fold_len (rs := rs) st (dp sl z.1 (0 - sm rs z.2))
    have h2 := dp_len sl z.1 (0 - sm rs z.2)
    show (m_ends rs (dp sl z.1 (0 - sm rs z.2)) st).length ≤ _
    simp only [List.length_cons]
    omega
theorem ends_take {rs : List Rope} {sl : Slips} {st : Stops} {i : Nat} {z : Int × List Int} (hz : st[i]? = some z) : m_ends rs sl (st.take (i + 1)) = dp (m_ends rs sl (st.take i)) z.1 (0 - sm rs z.2) := by
  unfold m_ends
  rw [List.take_succ, hz, List.foldl_append]
  rfl
theorem caps_rng {n : Int} {stand : List Int} {ends : Slips} (h : (stand.length : Int) = n) {z : Int × Int} (hz : z ∈ m_caps stand ends) : 0 ≤ z.1 ∧ z.1 ≤ n := by
  rcases List.mem_cons.mp hz with rfl | hz
  · exact ⟨Int.le_refl _, by simp; omega⟩
  · obtain ⟨y, hy, rfl⟩ := List.mem_map.mp hz
    obtain ⟨j, hj⟩ := List.mem_iff_getElem?.mp hy
    have h1 := en_get hj
    have h2 := (List.getElem?_eq_some_iff.mp h1.2).1
    simp only
    omega
theorem caps_len (stand : List Int) (ends : Slips) : (m_caps stand ends).length = stand.length + 1 := by simp [m_caps, en_length]
theorem en_at {α : Type} : ∀ {lo : Int} {xs : List α} {i : Nat} {x : α}, xs[i]? = some x → (en lo xs)[i]? = some (lo + i, x)
  | lo, [], i, x, h => by simp at h
  | lo, y :: ys, 0, x, h => by
    simp at h
    subst h
    simp [en]
  | lo, y :: ys, i + 1, x, h => by
    have := en_at (lo := lo + 1) (xs := ys) (i := i) (x := x) (by simpa using h)
    simp only [en, List.getElem?_cons_succ]
    rw [this]
    congr 2
    push_cast
    omega
theorem caps_has {stand : List Int} {ends : Slips} {c : Int} (h0 : 1 ≤ c) (h1 : c ≤ stand.length) : ∃ v, (c, v) ∈ m_caps stand ends := by
  obtain ⟨j, rfl⟩ : ∃ j : Nat, c = 1 + j := ⟨(c - 1).toNat, by omega⟩
  have hj : j < stand.length := by omega
  refine ⟨cap1 ends (1 + (j : Int), stand[j]), List.mem_cons_of_mem _ (List.mem_map.mpr ⟨(1 + (j : Int), stand[j]), ?_, rfl⟩)⟩
  exact List.mem_of_getElem? (en_at (by simp [hj]))
theorem tab_self {n : Int} {rs : List Rope} (k : Int) : (dl (tab n rs k) k).isSome = true := it_keys (by simp [one, dl]) _
theorem some_ne {n : Int} {rs : List Rope} {stand : List Int} {ends : Slips} {c : Int} (h0 : 1 ≤ c) (h1 : c ≤ stand.length) : m_some (m_low n rs (m_caps stand ends) c) ≠ [] := by
  obtain ⟨v, hv⟩ := caps_has (ends := ends) h0 h1
  have h2 : (v, (dl (tab n rs c) c).map (·.1)) ∈ m_low n rs (m_caps stand ends) c := List.mem_map.mpr ⟨_, hv, rfl⟩
  have h3 := tab_self (n := n) (rs := rs) c
  intro e
  have h4 : v + ((dl (tab n rs c) c).map (·.1)).getD 0 ∈ m_some (m_low n rs (m_caps stand ends) c) := by
    refine List.mem_map.mpr ⟨_, List.mem_filter.mpr ⟨h2, ?_⟩, rfl⟩
    cases e : dl (tab n rs c) c with
    | none =>
      rw [e] at h3
      cases h3
    | some q => rfl
  rw [e] at h4
  cases h4
theorem pstep_len {hs down : List Int} (acc : Pulls) (z : Int × Rope) : (pstep hs down acc z).length ≤ acc.length + 1 := by
  unfold pstep
  split
  · exact dp_len _ _ _
  · exact Nat.le_succ _
theorem pfold_len {hs down : List Int} : ∀ (l : List (Int × Rope)) (acc : Pulls), (l.foldl (pstep hs down) acc).length ≤ acc.length + l.length
  | [], acc => Nat.le_refl _
  | z :: l, acc => by
    have h1 := pfold_len (hs := hs) (down := down) l (pstep hs down acc z)
    have h2 := pstep_len (hs := hs) (down := down) acc z
    simp only [List.foldl_cons, List.length_cons]
    omega
theorem pit_len {rs : List Rope} {hs down : List Int} : ∀ (t : Nat) (acc : Pulls), (pit rs hs down t acc).length ≤ acc.length + t * rs.length
  | 0, acc => by simp [pit]
  | t + 1, acc => by
    have h1 := pit_len (rs := rs) (hs := hs) (down := down) t acc
    have h2 := pfold_len (hs := hs) (down := down) (en 0 rs) (pit rs hs down t acc)
    rw [en_length] at h2
    have e : (t + 1) * rs.length = t * rs.length + rs.length := Nat.succ_mul _ _
    show (ppass rs hs down (pit rs hs down t acc)).length ≤ _
    unfold ppass
    omega
theorem down_len {n : Int} (stand hs : List Int) : (m_down n stand hs).length ≤ n.toNat := by
  have h1 := List.length_filter_le (fun c => decide (hi hs c < hi stand c)) (rg 1 (n + 1))
  have h2 := rg_length 1 (n + 1)
  unfold m_down
  omega
theorem down_rng {n : Int} {stand hs : List Int} {c : Int} (h : c ∈ m_down n stand hs) : 1 ≤ c ∧ c ≤ n := by
  have h1 := mem_rg.mp (List.mem_filter.mp h).1
  omega
theorem down_ord (n : Int) (stand hs : List Int) : (m_down n stand hs).Pairwise (· ≤ ·) := (rg_ord 1 (n + 1)).filter _
theorem down_nd (n : Int) (stand hs : List Int) : (m_down n stand hs).Nodup := (rg_nodup 1 (n + 1)).filter _
theorem rp_mem {rs : List Rope} {k : Int} (h0 : 0 ≤ k) (h1 : k < rs.length) : rp rs k ∈ rs := by
  obtain ⟨j, rfl⟩ := Int.eq_ofNat_of_zero_le h0
  have hj : j < rs.length := by omega
  unfold rp
  simp [hj]
theorem dl_keys {α : Type} {kvs : List (Int × α)} {k : Int} (h : k ∈ kvs.map (·.1)) : (dl kvs k).isSome = true := by
  obtain ⟨p, hp, rfl⟩ := List.mem_map.mp h
  unfold dl
  rw [Option.isSome_map, List.find?_isSome]
  exact ⟨p, hp, by simp⟩
theorem keys_dl {α : Type} {kvs : List (Int × α)} {k : Int} (h : (dl kvs k).isSome = true) : k ∈ kvs.map (·.1) := by
  obtain ⟨x, hx⟩ := Option.isSome_iff_exists.mp h
  exact List.mem_map.mpr ⟨_, dl_mem hx, rfl⟩
theorem okPulls.at {n : Int} {rs : List Rope} {hs down : List Int} {ends : Slips} {pu : Pulls} (h : okPulls n rs hs down ends pu) {c : Int} (hc : c ∈ down) : ∃ x, dl pu c = some x ∧ okPull rs hs down ends c x := by
  obtain ⟨x, hx⟩ := Option.isSome_iff_exists.mp (dl_keys (kvs := pu) (k := c) (by rw [h.keys]; exact hc))
  exact ⟨x, hx, h.ok _ (dl_mem hx)⟩
theorem okPulls.step {n : Int} {rs : List Rope} {hs down : List Int} {ends : Slips} {pu : Pulls} (h : okPulls n rs hs down ends pu) {c : Int} (hc : c ∈ down) : wk rs pu c ∈ down := by
  obtain ⟨x, hx, hk⟩ := h.at hc
  unfold wk
  rw [hx]
  cases x with
  | none => exact hc
  | some k => exact hk.2.2.2.1
theorem okPulls.steps {n : Int} {rs : List Rope} {hs down : List Int} {ends : Slips} {pu : Pulls} (h : okPulls n rs hs down ends pu) {c : Int} (hc : c ∈ down) : ∀ t, wkn rs pu t c ∈ down
  | 0 => hc
  | t + 1 => h.step (h.steps hc t)
theorem ends_key {rs : List Rope} : ∀ {st : Stops} {sl : Slips} {z : Int × Int}, z ∈ m_ends rs sl st → z.1 ∈ sl.map (·.1) ∨ z.1 ∈ st.map (·.1)
  | [], sl, z, h => .inl (List.mem_map.mpr ⟨z, h, rfl⟩)
  | y :: st, sl, z, h => by
    rcases ends_key (st := st) (sl := dp sl y.1 (0 - sm rs y.2)) h with h | h
    · obtain ⟨p, hp, e⟩ := List.mem_map.mp h
      rcases dp_mem hp with hp | rfl
      · exact .inl (List.mem_map.mpr ⟨p, hp, e⟩)
      · right
        rw [← e]
        simp
    · right
      rw [List.map_cons]
      exact List.mem_cons_of_mem _ h
theorem stops_nd {n : Int} {rs : List Rope} : ∀ {sl : Slips}, (sl.map (·.1)).Nodup → ((m_stops n rs sl).map (·.1)).Nodup
  | [], _ => by simp [m_stops]
  | z :: sl, h => by
    have h2 := List.nodup_cons.mp (by simpa using h : (z.1 :: sl.map (·.1)).Nodup)
    have ih := stops_nd (n := n) (rs := rs) h2.2
    have e : m_stops n rs (z :: sl) = (stop1 n rs z).toList ++ m_stops n rs sl := by
      unfold m_stops
      cases q : stop1 n rs z <;> simp [q]
    rw [e]
    cases q : stop1 n rs z with
    | none => exact ih
    | some p =>
      show (p.1 :: (m_stops n rs sl).map (·.1)).Nodup
      refine List.nodup_cons.mpr ⟨fun hm => ?_, ih⟩
      obtain ⟨y, hy, e1⟩ := List.mem_map.mp hm
      obtain ⟨x, hx, e2⟩ := stops_key hy
      refine h2.1 (List.mem_map.mpr ⟨x, hx, ?_⟩)
      rw [e2, e1, stop1_key q]
theorem stops_len {n : Int} {rs : List Rope} (sl : Slips) : (m_stops n rs sl).length ≤ sl.length := List.length_filterMap_le _ _
theorem zip_le {n : Int} {hs stand : List Int} (h1 : (hs.length : Int) = n) (h2 : (stand.length : Int) = n) (h : ∀ c, 1 ≤ c → c ≤ n → hi hs c ≤ hi stand c) : (((hs.zip stand).map fun z => decide (z.2 < z.1)).any id) = false := by
  rw [List.any_eq_false]
  intro x hx
  obtain ⟨z, hz, rfl⟩ := List.mem_map.mp hx
  obtain ⟨j, hj⟩ := List.mem_iff_getElem?.mp hz
  rw [List.getElem?_zip_eq_some] at hj
  have l1 := (List.getElem?_eq_some_iff.mp hj.1).1
  have := h (1 + (j : Int)) (by omega) (by omega)
  have e : (1 + (j : Int)).toNat = j + 1 := by omega
  unfold hi at this
  rw [e] at this
  simp only [List.getD_eq_getElem?_getD, List.getElem?_cons_succ, hj.1, hj.2, Option.getD_some] at this
  simp
  omega
end Rb

set_option Elab.async false
set_option linter.all false
set_option maxRecDepth 100000
set_option maxHeartbeats 4000000
namespace Rb
open PySem PySem.Spec PyProof.Rows L2
section
variable {Pg : Program} {w : World} {K : PySem.W.Frag} {mg : Str → Option Value} {base : Heap}
abbrev N_is_slip : List PySem.Str := ["rig", "thing"]
theorem sc_is_slip : FnScope N_is_slip ["rig", "thing"] (defScope s_is_slip) := ⟨rfl, rfl, rfl, by decide +kernel, rfl, by decide +kernel, by decide +kernel⟩
abbrev sp_is_slip (K : PySem.W.Frag) : Sp := SpP (fun a : Int × List Rope × (Int × Int) => 1 ≤ a.2.2.1 ∧ a.2.2.1 ≤ a.1) (fun a => [Rg K a.1 a.2.1, PII a.2.2]) (fun a => Bo true)
theorem ok_is_slip (W : Wd K mg) : Fn Pg w K mg base 3 "is_slip" (sp_is_slip K) [] := by
  obtain ⟨fd, F⟩ := W.says.def_ 21 (d := d_is_slip) rfl
  refine ⟨_, fd, ["rig", "thing"], [], fn_ok F sc_is_slip (fun _ => rfl) (by decide) ?_, W.g 21 _ rfl, F.kp, FunD.bindsN F (fun _ _ _ _ _ _ us hl => match us, hl with | [_, _], _ => rfl), .nil⟩
  rintro cdv A outer s H E hr ⟨n, rs, thing⟩ hp
  try dsimp only at hp
  refine ⟨_, (pss_cons (ps_if (PW.pt (pw_or (pt_not (pt_val (pe_callB (r := rIsi K) call_isi (by rfl) (W.z 59 _ rfl) (by decide +kernel) (pa_cons (pv 1) (pa_cons (pe_bltn (v := .ty "tuple") (by rfl) (W.z 64 _ rfl) (by decide +kernel) rfl) pa_nil))))) (pw_or1 (pt_cmpR op_ne (pe_callB (r := rLenQ K) call_len_seq (by rfl) (W.z 60 _ rfl) PySem.boot_len (pa_cons (pv 1) pa_nil)) (pe_int) (nomark _))))) (pss_one (ps_ret (pe_bl))) pss_nil)
      (pss_one (ps_ret ((pe_and (pe_fn (ok_is_within W) (hr.mono (by decide)) (by rfl) (pa_cons (pe_ix (r := rIxT K) ix_tup (pv 1) (pe_int) (fun _ _ => rfl)) (pa_cons (pe_int) (pa_cons (pe_mt0 (ok_Rig_many W) (hr.mono (by decide)) W.cRig (pv 0)) pa_nil)))) (pe_one (pe_fn (ok_is_whole W) (hr.mono (by decide)) (by rfl) (pa_cons (pe_ix (r := rIxT K) ix_tup (pv 1) (pe_int) (fun _ _ => rfl)) pa_nil)))))))), fun b Q sb k => ?_⟩
  try dsimp only
  try dsimp only at k
  refine sq_no (et_or (et_not (et_B (ev_cb (ea_cons (ev_var rfl) (ea_cons (ev_ty) ea_nil)) (rc_isi (c := true) (fun _ _ _ => ty_tup) (by decide +kernel))))) fun _ => (et_test (ev_op (ev_cb (ea_cons (ev_var rfl) ea_nil) rc_lenT) (ev_int) rv_ne))) rfl ?_
  exact goR k.fin ((ev_andV (ev_call (thing.1, 1, n) (ea_cons (ev_op (ev_var rfl) (ev_int) (rv_ixT rfl)) (ea_cons (ev_int) (ea_cons (ev_meth (n, rs) (ev_var rfl) (by decide +kernel) (by decide +kernel) ea_nil trivial) ea_nil))) trivial) fun _ => (ev_call thing.2 (ea_cons (ev_op (ev_var rfl) (ev_int) (rv_ixT rfl)) ea_nil) trivial))) (by simp [m_is_within, hp.1, hp.2])

abbrev N_look_at_slips : List PySem.Str := ["rig", "slips", "one", "climber", "to"]
theorem sc_look_at_slips : FnScope N_look_at_slips ["rig", "slips"] (defScope s_look_at_slips) := ⟨rfl, rfl, rfl, by decide +kernel, rfl, by decide +kernel, by decide +kernel⟩
abbrev sp_look_at_slips (K : PySem.W.Frag) : Sp := SpP (fun a : Bool × Int × List Rope × Slips => okSl a.2.1 a.2.2.2) (fun a => [Rg K a.2.1 a.2.2.1, SL a.1 a.2.2.2]) (fun a => No)
theorem ok_look_at_slips (W : Wd K mg) : Fn Pg w K mg base 4 "look_at_slips" (sp_look_at_slips K) [] := by
  obtain ⟨fd, F⟩ := W.says.def_ 22 (d := d_look_at_slips) rfl
  refine ⟨_, fd, ["rig", "slips"], [], fn_ok F sc_look_at_slips (fun _ => rfl) (by decide) ?_, W.g 22 _ rfl, F.kp, FunD.bindsN F (fun _ _ _ _ _ _ us hl => match us, hl with | [_, _], _ => rfl), .nil⟩
  rintro cdv A outer s H E hr ⟨c, n, rs, slips⟩ hp
  try dsimp only at hp
  cases c
  · refine ⟨_, (pss_cons (ps_if (PW.pt (pw_or (pt_not (pt_val (pe_callB (r := rIsiT K) call_isiT (by rfl) (W.z 59 _ rfl) (by decide +kernel) (pa_cons (pv 1) (pa_cons (pe_tup (pa_cons (pe_bltn (v := .ty "list") (by rfl) (W.z 63 _ rfl) (by decide +kernel) rfl) (pa_cons (pe_bltn (v := .ty "tuple") (by rfl) (W.z 64 _ rfl) (by decide +kernel) rfl) pa_nil))) pa_nil))))) (pw_or1 (pt_not (pt_val (pe_callB (r := rAll K) (cr_all rfl) (by rfl) (W.z 61 _ rfl) (by decide +kernel) (pa_cons (pe_lc (own := [("one", 2)]) rfl sc_look_at_slips.nd (pi_listK (K := K) (pv 1)) (blkOk_by (own := [("one", 2)]) (N := N_look_at_slips) (sc := defScope s_look_at_slips) (by decide +kernel)) (fun _ _ _ _ _ => pg_name (i := 2) sc_look_at_slips.nd rfl (by first | exact Or.inl rfl | exact Or.inr rfl)) (fun _ _ _ _ _ => pts_nil) (fun _ _ _ _ _ => (pe_fn (ok_is_slip W) (hr.mono (by decide)) (by rfl) (pa_cons (pv 0) (pa_cons (pv 2) pa_nil))))) pa_nil))))))) pss_never pss_nil)
        (pss_one (ps_if (pt_cmpR op_lt (pe_callB call_lenSO (by rfl) (W.z 60 _ rfl) PySem.boot_len (pa_cons (pe_si (own := [("climber", 3), ("to", 4)]) (g := gTup K 2 (gCons (gName 3) (gCons (gName 4) (gNil)))) rfl sc_look_at_slips.nd (pi_listK (K := K) (pv 1)) (blkOk_by (own := [("climber", 3), ("to", 4)]) (N := N_look_at_slips) (sc := defScope s_look_at_slips) (by decide +kernel)) (fun _ _ _ _ _ => pg_tup rfl (pgs_cons (pg_name (i := 3) sc_look_at_slips.nd rfl (by first | exact Or.inl rfl | exact Or.inr rfl)) (pgs_cons (pg_name (i := 4) sc_look_at_slips.nd rfl (by first | exact Or.inl rfl | exact Or.inr rfl)) (pgs_nil)))) (fun _ _ _ _ _ => pts_nil) (fun _ _ _ _ _ => (pv 3))) pa_nil)) (pe_callB (r := rLenQ K) call_len_seq (by rfl) (W.z 60 _ rfl) PySem.boot_len (pa_cons (pv 1) pa_nil)) (nomark _)) pss_never pss_nil))), fun b Q sb k => ?_⟩
    try dsimp only
    try dsimp only at k
    refine sq_no (et_or (et_not (et_B (ev_cb (ea_cons (ev_var rfl) (ea_cons (ev_tup (ea_cons (ev_ty) (ea_cons (ev_ty) ea_nil))) ea_nil)) (rc_isiT (ms := ["list", "tuple"]) (c := true) (fun _ _ _ => ty_lst) (kit2 (n := "list") (a := "list") (c := "tuple") (x := true) (y := false) (by decide +kernel) (by decide +kernel)))))) fun _ => (et_not (et_B (ev_cb (ea_cons (ev_lcA Bo (fun z => true) _ (src_list (ev_var rfl)) (fun z _ => tg_name) (fun z hz O => (ev_call (n, rs, z) (ea_cons (ev_var rfl) (ea_cons (ev_var rfl) ea_nil)) (hp.rng z hz))) (by have := hp.len; omega)) ea_nil) rc_all)))) (by simp) ?_
    refine go_no (et_test (ev_op (ev_lenSi (fun z => z.1) (fun z => [_, _, none, some (I z.1), some (I z.2)]) (src_list (ev_var rfl)) (fun z _ => tg_pps (tg_name) (tg_name)) (fun z hz O => (ev_var rfl)) (by have := hp.len; omega) hp.nd) (ev_cb (ea_cons (ev_var rfl) ea_nil) rc_lenL) rv_lt)) (by simp) (nx_fin k.fin)
  · refine ⟨_, (pss_cons (ps_if (PW.pt (pw_or (pt_not (pt_val (pe_callB (r := rIsiT K) call_isiT (by rfl) (W.z 59 _ rfl) (by decide +kernel) (pa_cons (pv 1) (pa_cons (pe_tup (pa_cons (pe_bltn (v := .ty "list") (by rfl) (W.z 63 _ rfl) (by decide +kernel) rfl) (pa_cons (pe_bltn (v := .ty "tuple") (by rfl) (W.z 64 _ rfl) (by decide +kernel) rfl) pa_nil))) pa_nil))))) (pw_or1 (pt_not (pt_val (pe_callB (r := rAll K) (cr_all rfl) (by rfl) (W.z 61 _ rfl) (by decide +kernel) (pa_cons (pe_lc (own := [("one", 2)]) rfl sc_look_at_slips.nd (pi_tupK (K := K) (pv 1)) (blkOk_by (own := [("one", 2)]) (N := N_look_at_slips) (sc := defScope s_look_at_slips) (by decide +kernel)) (fun _ _ _ _ _ => pg_name (i := 2) sc_look_at_slips.nd rfl (by first | exact Or.inl rfl | exact Or.inr rfl)) (fun _ _ _ _ _ => pts_nil) (fun _ _ _ _ _ => (pe_fn (ok_is_slip W) (hr.mono (by decide)) (by rfl) (pa_cons (pv 0) (pa_cons (pv 2) pa_nil))))) pa_nil))))))) pss_never pss_nil)
        (pss_one (ps_if (pt_cmpR op_lt (pe_callB call_lenSO (by rfl) (W.z 60 _ rfl) PySem.boot_len (pa_cons (pe_si (own := [("climber", 3), ("to", 4)]) (g := gTup K 2 (gCons (gName 3) (gCons (gName 4) (gNil)))) rfl sc_look_at_slips.nd (pi_tupK (K := K) (pv 1)) (blkOk_by (own := [("climber", 3), ("to", 4)]) (N := N_look_at_slips) (sc := defScope s_look_at_slips) (by decide +kernel)) (fun _ _ _ _ _ => pg_tup rfl (pgs_cons (pg_name (i := 3) sc_look_at_slips.nd rfl (by first | exact Or.inl rfl | exact Or.inr rfl)) (pgs_cons (pg_name (i := 4) sc_look_at_slips.nd rfl (by first | exact Or.inl rfl | exact Or.inr rfl)) (pgs_nil)))) (fun _ _ _ _ _ => pts_nil) (fun _ _ _ _ _ => (pv 3))) pa_nil)) (pe_callB (r := rLenQ K) call_len_seq (by rfl) (W.z 60 _ rfl) PySem.boot_len (pa_cons (pv 1) pa_nil)) (nomark _)) pss_never pss_nil))), fun b Q sb k => ?_⟩
    try dsimp only
    try dsimp only at k
    refine sq_no (et_or (et_not (et_B (ev_cb (ea_cons (ev_var rfl) (ea_cons (ev_tup (ea_cons (ev_ty) (ea_cons (ev_ty) ea_nil))) ea_nil)) (rc_isiT (ms := ["list", "tuple"]) (c := true) (fun _ _ _ => ty_tup) (kit2 (n := "tuple") (a := "list") (c := "tuple") (x := false) (y := true) (by decide +kernel) (by decide +kernel)))))) fun _ => (et_not (et_B (ev_cb (ea_cons (ev_lcA Bo (fun z => true) _ (src_tup (ev_var rfl)) (fun z _ => tg_name) (fun z hz O => (ev_call (n, rs, z) (ea_cons (ev_var rfl) (ea_cons (ev_var rfl) ea_nil)) (hp.rng z hz))) (by have := hp.len; omega)) ea_nil) rc_all)))) (by simp) ?_
    refine go_no (et_test (ev_op (ev_lenSi (fun z => z.1) (fun z => [_, _, none, some (I z.1), some (I z.2)]) (src_tup (ev_var rfl)) (fun z _ => tg_pps (tg_name) (tg_name)) (fun z hz O => (ev_var rfl)) (by have := hp.len; omega) hp.nd) (ev_cb (ea_cons (ev_var rfl) ea_nil) rc_lenT) rv_lt)) (by simp) (nx_fin k.fin)

abbrev N_stops_by : List PySem.Str := ["table", "slips", "found", "climber", "to", "low"]
theorem sc_stops_by : FnScope N_stops_by ["table", "slips"] (defScope s_stops_by) := ⟨rfl, rfl, rfl, by decide +kernel, rfl, by decide +kernel, by decide +kernel⟩
abbrev sp_stops_by (K : PySem.W.Frag) : Sp := Spx (β := Addr) (fun a : Int × List Rope × Slips => okT a.1 a.2.1 ∧ okSl a.1 a.2.2) (fun a => [Tab K a.1 a.2.1 (tabs a.1 a.2.1), L PII a.2.2]) (fun _ => []) (fun _ d => At d) (fun a d => [(d, oD (L I) (m_stops a.1 a.2.1 a.2.2))])
theorem ok_stops_by (W : Wd K mg) : Fn Pg w K mg base 6 "stops_by" (sp_stops_by K) [] := by
  obtain ⟨fd, F⟩ := W.says.def_ 23 (d := d_stops_by) rfl
  refine ⟨_, fd, ["table", "slips"], [], fn_ok F sc_stops_by (fun _ => rfl) (by decide) ?_, W.g 23 _ rfl, F.kp, FunD.bindsN F (fun _ _ _ _ _ _ us hl => match us, hl with | [_, _], _ => rfl), .nil⟩
  rintro cdv A outer s H E hr ⟨n, rs, slips⟩ hp
  try dsimp only at hp
  have hu : (cxOf CX0 Pg w K mg base N_stops_by "stops_by" (defScope s_stops_by) (He.fAd K d_stops_by.at_) cdv A outer s H E).nox.A.units + 1 < cLine := hu_of hr
  refine ⟨_, (pss_cons (ps_set (i := 2) sc_stops_by.nd rfl (by first | exact Or.inl rfl | exact Or.inr rfl) (pe_dnewK))
      (pss_cons (ps_for PassesOwn.never rfl (pi_listK (K := K) (pv 1)) (pg_tup rfl (pgs_cons (pg_name (i := 3) sc_stops_by.nd rfl (by first | exact Or.inl rfl | exact Or.inr rfl)) (pgs_cons (pg_name (i := 4) sc_stops_by.nd rfl (by first | exact Or.inl rfl | exact Or.inr rfl)) (pgs_nil)))) (pss_cons (ps_set (i := 5) sc_stops_by.nd rfl (by first | exact Or.inl rfl | exact Or.inr rfl) (pe_mt (ok_Table_least W) (hr.mono (by decide)) W.cTable (pv 0) (pa_cons (pe_int) (pa_cons (pv 3) pa_nil))))
      (pss_one (ps_if (PW.pt (pw_and (pt_cmpR op_notN (pv 5) (pe_non) (nomark _)) (pw_and1 (pt_cmpR op_lt (pv 4) (pe_op op_sub (pe_int) (pv 5)) (nomark _))))) (pss_one (ps_dput hu (pv 2) (pv 3) (pe_mt (ok_Table_chain W) (hr.mono (by decide)) W.cTable (pv 0) (pa_cons (pe_int) (pa_cons (pv 3) pa_nil))) rfl)) pss_nil))))
      (pss_one (ps_ret (pv 2))))), fun b Q sb k => ?_⟩
  try dsimp only
  try dsimp only at k
  obtain ⟨ht, hs⟩ := hp
  have n1 : 1 ≤ n := ht.ok.n1
  refine sq_asgX (evx_dnew (L I)) fun d => ?_
  refine sq_for (vs := [3, 4]) (src_list (ev_var rfl)) (fun i => [some (Tab K n rs (tabs n rs)), some (L PII slips), some (At d), none, none, none]) (fun i => [(d, oD (L I) (m_stops n rs (slips.take i)))]) (fun i z => [some (Tab K n rs (tabs n rs)), some (L PII slips), some (At d), some (I z.1), some (I z.2), none]) (.yes rfl (.yes rfl (.yes rfl (.no (.no (.no .nil)))))) rfl (fun i z hz => tg_pps (tg_name) (tg_name)) (fun b1 r1 i z hz => ?_) ?_
  · have hr := hs.rng z (List.mem_of_getElem? hz)
    have hpre : okT n rs ∧ (0 : Int) ≤ 0 ∧ (0 : Int) ≤ n ∧ 0 ≤ z.1 ∧ z.1 ≤ n := ⟨ht, by omega, by omega, by omega, hr.2⟩
    have hw : Wkn [some (Tab K n rs (tabs n rs)), some (L PII slips), some (At d), none, none, none] [some (Tab K n rs (tabs n rs)), some (L PII slips), some (At d), some (I z.1), some (I z.2), some (Op ((dl (tab n rs z.1) 0).map (·.1)))] := .yes rfl (.yes rfl (.yes rfl (.no (.no (.no .nil)))))
    refine sq_asg (ev_meth (n, rs, 0, z.1) (ev_var rfl) (by decide +kernel) (by decide +kernel) (ea_cons (ev_int) (ea_cons (ev_var rfl) ea_nil)) hpre) ?_
    rw [stops_take hz]
    have hlen : (m_stops n rs (slips.take i)).length < 100000 := by
      have h1 : (m_stops n rs (slips.take i)).length ≤ (slips.take i).length := List.length_filterMap_le _ _
      have h2 := List.length_take_le i slips
      have h3 := hs.len
      have h4 := List.length_take (i := i) (l := slips)
      omega
    cases e : dl (tab n rs z.1) 0 with
    | none =>
      have h0 : stop1 n rs z = none := by unfold stop1; rw [e]
      rw [h0]
      dsimp only [Option.map, Option.toList]
      rw [List.append_nil]
      exact go_no (et_and (c := false) (d := false) (et_test (ev_op (ev_var rfl) (ev_non) (rv_notN (o := none)))) fun h => by cases h) rfl (nx_pst (.yes rfl (.yes rfl (.yes rfl (.no (.no (.no .nil)))))))
    | some q =>
      dsimp only [Option.map]
      refine go_if (et_and (et_test (ev_op (ev_var rfl) (ev_non) (rv_notN (o := some q.1)))) fun _ => (et_test (ev_op (ev_var rfl) (ev_op (ev_int) (ev_var rfl) rv_sub) rv_lt))) (fun h => ?_) fun h => ?_
      · have hlt : z.2 < 0 - q.1 := by simpa using h
        have h0 : stop1 n rs z = some (z.1, q.2) := by unfold stop1; rw [e]; exact if_pos hlt
        rw [h0]
        dsimp only [Option.toList]
        have hc : OL ((dl (tab n rs z.1) 0).map (·.2)) = L I q.2 := by rw [e]; rfl
        refine go_dput (Ev.cast (ev_meth (n, rs, 0, z.1) (ev_var rfl) (by decide +kernel) (by decide +kernel) (ea_cons (ev_int) (ea_cons (ev_var rfl) ea_nil)) hpre) hc) (ev_var rfl) (ev_var rfl) hlen ?_
        rw [dp_new fun hm => ?_]
        · exact nx_pst (.yes rfl (.yes rfl (.yes rfl (.no (.no (.no .nil))))))
        · obtain ⟨p, hp, e1⟩ := List.mem_map.mp hm
          obtain ⟨y, hy, e2⟩ := stops_key hp
          exact nd_take hs.nd hz y hy (e2.trans e1)
      · have hlt : ¬ z.2 < 0 - q.1 := by simpa using h
        have h0 : stop1 n rs z = none := by unfold stop1; rw [e]; exact if_neg hlt
        rw [h0]
        dsimp only [Option.toList]
        rw [List.append_nil]
        exact go_next (nx_pst (.yes rfl (.yes rfl (.yes rfl (.no (.no (.no .nil)))))))
  · rw [List.take_length]
    exact goX d k (ev_var rfl) rfl rfl

abbrev N_ends_by : List PySem.Str := ["rig", "slips", "stops", "found", "climber", "chain"]
theorem sc_ends_by : FnScope N_ends_by ["rig", "slips", "stops"] (defScope s_ends_by) := ⟨rfl, rfl, rfl, by decide +kernel, rfl, by decide +kernel, by decide +kernel⟩
abbrev sp_ends_by (K : PySem.W.Frag) : Sp := Spx (β := Addr) (fun a : Addr × Int × List Rope × Slips × Stops => okRs a.2.1 a.2.2.1 ∧ okSl a.2.1 a.2.2.2.1 ∧ (∀ z ∈ a.2.2.2.2, okC a.2.2.1 z.2) ∧ a.2.2.2.2.length ≤ 1000) (fun a => [Rg K a.2.1 a.2.2.1, L PII a.2.2.2.1, At a.1]) (fun a => [(a.1, oD (L I) a.2.2.2.2)]) (fun _ d => At d) (fun a d => [(a.1, oD (L I) a.2.2.2.2), (d, oD I (m_ends a.2.2.1 a.2.2.2.1 a.2.2.2.2))])
theorem ok_ends_by (W : Wd K mg) : Fn Pg w K mg base 7 "ends_by" (sp_ends_by K) [] := by
  obtain ⟨fd, F⟩ := W.says.def_ 24 (d := d_ends_by) rfl
  refine ⟨_, fd, ["rig", "slips", "stops"], [], fn_ok F sc_ends_by (fun _ => rfl) (by decide) ?_, W.g 24 _ rfl, F.kp, FunD.bindsN F (fun _ _ _ _ _ _ us hl => match us, hl with | [_, _, _], _ => rfl), .nil⟩
  rintro cdv A outer s H E hr ⟨ds, n, rs, slips, stops⟩ hp
  try dsimp only at hp
  have hu : (cxOf CX0 Pg w K mg base N_ends_by "ends_by" (defScope s_ends_by) (He.fAd K d_ends_by.at_) cdv A outer s H E).nox.A.units + 1 < cLine := hu_of hr
  refine ⟨_, (pss_cons (ps_set (i := 3) sc_ends_by.nd rfl (by first | exact Or.inl rfl | exact Or.inr rfl) (pe_callTy (r := rDictP K) (call_dictP rfl) (by rfl) (W.z 65 _ rfl) (by decide +kernel) (pa_cons (pv 1) pa_nil)))
      (pss_cons (ps_lock (ps_for PassesOwn.never rfl (pi_items (pv 2)) (pg_tup rfl (pgs_cons (pg_name (i := 4) sc_ends_by.nd rfl (by first | exact Or.inl rfl | exact Or.inr rfl)) (pgs_cons (pg_name (i := 5) sc_ends_by.nd rfl (by first | exact Or.inl rfl | exact Or.inr rfl)) (pgs_nil)))) (pss_one (ps_dput hu (pv 3) (pv 4) (pe_op op_sub (pe_int) (pe_fn (ok_sum_of W) (hr.mono (by decide)) (by rfl) (pa_cons (pv 0) (pa_cons (pv 5) pa_nil)))) rfl))))
      (pss_one (ps_ret (pv 3))))), fun b Q sb k => ?_⟩
  try dsimp only
  try dsimp only at k
  obtain ⟨hok, hs, hch, hl⟩ := hp
  refine sq_asgX (evx_dictP (ea_cons (ev_var rfl) ea_nil) hs.nd) fun d => ?_
  refine go_perm (O' := [(ds, oD (L I) stops), (d, oD I slips)]) (List.Perm.swap _ _ _) ?_
  refine sq_lock (Gn := [some (Rg K n rs), some (L PII slips), some (At ds), some (At d), none, none]) (On := [(d, oD I (m_ends rs slips stops))]) ?_ fun b1 od vs lk D1 hn _ => ?_
  · exact goX d k (ev_var rfl) rfl rfl
  · refine go_for (vs := [4, 5]) (src_items lk (ev_var rfl)) (fun i => [some (Rg K n rs), some (L PII slips), some (At ds), some (At d), none, none]) (fun i => [(d, oD I (m_ends rs slips (stops.take i)))]) (fun i z => [some (Rg K n rs), some (L PII slips), some (At ds), some (At d), some (I z.1), some (L I z.2)]) (.yes rfl (.yes rfl (.yes rfl (.yes rfl (.no (.no .nil)))))) rfl (fun i z hz => tg_pps (tg_name) (tg_name)) (fun b2 r2 i z hz => ?_) ?_
    · rw [ends_take hz]
      refine go_dput (ev_op (ev_int) (ev_call (n, rs, z.2) (ea_cons (ev_var rfl) (ea_cons (ev_var rfl) ea_nil)) ⟨hok, hch z (List.mem_of_getElem? hz)⟩) rv_sub) (ev_var rfl) (ev_var rfl) ?_ (nx_pst (.yes rfl (.yes rfl (.yes rfl (.yes rfl (.no (.no .nil)))))))
      have h1 := fold_len (rs := rs) (stops.take i) slips
      have h2 := List.length_take_le i stops
      have h4 := List.length_take (i := i) (l := stops)
      have h3 := hs.len
      omega
    · rw [List.take_length]
      exact hn

abbrev N_fallen : List PySem.Str := ["table", "stand", "ends", "caps", "found", "climber", "height", "some", "knot", "cap", "far"]
theorem sc_fallen : FnScope N_fallen ["table", "stand", "ends"] (defScope s_fallen) := ⟨rfl, rfl, rfl, by decide +kernel, rfl, by decide +kernel, by decide +kernel⟩
abbrev sp_fallen (K : PySem.W.Frag) : Sp := SpP (fun a : Int × List Rope × List Int × Slips => okT a.1 a.2.1 ∧ (a.2.2.1.length : Int) = a.1) (fun a => [Tab K a.1 a.2.1 (tabs a.1 a.2.1), L I a.2.2.1, Dc I a.2.2.2]) (fun a => L I (m_fallen a.1 a.2.1 a.2.2.1 a.2.2.2))
theorem ok_fallen (W : Wd K mg) : Fn Pg w K mg base 6 "fallen" (sp_fallen K) [] := by
  obtain ⟨fd, F⟩ := W.says.def_ 25 (d := d_fallen) rfl
  refine ⟨_, fd, ["table", "stand", "ends"], [], fn_ok F sc_fallen (fun _ => rfl) (by decide) ?_, W.g 25 _ rfl, F.kp, FunD.bindsN F (fun _ _ _ _ _ _ us hl => match us, hl with | [_, _, _], _ => rfl), .nil⟩
  rintro cdv A outer s H E hr ⟨n, rs, stand, ends⟩ hp
  try dsimp only at hp
  have hu : (cxOf CX0 Pg w K mg base N_fallen "fallen" (defScope s_fallen) (He.fAd K d_fallen.at_) cdv A outer s H E).nox.A.units + 1 < cLine := hu_of hr
  refine ⟨_, (pss_cons (ps_set (i := 3) sc_fallen.nd rfl (by first | exact Or.inl rfl | exact Or.inr rfl) (pe_disp (pps_cons (pe_int) (pe_int) pps_nil) (by rfl) (by rfl) (fun z => by cases z) (by decide)))
      (pss_cons (ps_for PassesOwn.never rfl (pi_enumk (by rfl) (W.z 69 _ rfl) (pa_cons (pv 1) (pa_cons (pe_int) pa_nil))) (pg_tup rfl (pgs_cons (pg_name (i := 5) sc_fallen.nd rfl (by first | exact Or.inl rfl | exact Or.inr rfl)) (pgs_cons (pg_name (i := 6) sc_fallen.nd rfl (by first | exact Or.inl rfl | exact Or.inr rfl)) (pgs_nil)))) (pss_one (ps_dput hu (pv 3) (pv 5) (pe_callB (call_min2 rfl) (by rfl) (W.z 71 _ rfl) (by decide +kernel) (pa_cons (pv 6) (pa_cons (pe_dget2 hu (pv 2) (pv 5) (pv 6) ⟨rfl, rfl, rfl, rfl⟩) pa_nil))) rfl)))
      (pss_cons (ps_set (i := 4) sc_fallen.nd rfl (by first | exact Or.inl rfl | exact Or.inr rfl) (pe_lst pa_nil))
      (pss_cons (ps_for PassesOwn.never rfl (pi_range2 (by rfl) (W.z 68 _ rfl) (pa_cons (pe_int) (pa_cons (pe_op op_add (pe_callB (r := rLenQ K) call_len_seq (by rfl) (W.z 60 _ rfl) PySem.boot_len (pa_cons (pv 1) pa_nil)) (pe_int)) pa_nil))) (pg_name (i := 5) sc_fallen.nd rfl (by first | exact Or.inl rfl | exact Or.inr rfl)) (pss_cons (ps_lock (ps_setLc (i := 7) (own := [("knot", 8), ("cap", 9)]) (g := gTup K 2 (gCons (gName 8) (gCons (gName 9) (gNil)))) rfl sc_fallen.nd rfl rfl (sw_true rfl rfl rfl (by decide +kernel)) (pi_items (pv 3)) (blkOk_by (own := [("knot", 8), ("cap", 9)]) (N := N_fallen) (sc := defScope s_fallen) (by decide +kernel)) (fun _ _ _ _ _ => pg_tup rfl (pgs_cons (pg_name (i := 8) sc_fallen.nd rfl (by first | exact Or.inl rfl | exact Or.inr rfl)) (pgs_cons (pg_name (i := 9) sc_fallen.nd rfl (by first | exact Or.inl rfl | exact Or.inr rfl)) (pgs_nil)))) (fun _ _ _ _ _ => pts_nil) (fun _ _ _ _ _ => (pe_tup (pa_cons (pv 9) (pa_cons (pe_mt (ok_Table_least W) (hr.mono (by decide)) W.cTable (pv 0) (pa_cons (pv 5) (pa_cons (pv 8) pa_nil))) pa_nil))))))
      (pss_one (ps_expr (pe_bm PySem.F.plainAttrs_list PySem.F.slot_list_append PySem.F.type_list_append mt_append (pv 4) (pa_cons (pe_callB (r := rMin K) (cr_min rfl) (by rfl) (W.z 71 _ rfl) (by decide +kernel) (pa_cons (pe_lc (own := [("cap", 9), ("far", 10)]) (g := gTup K 2 (gCons (gName 9) (gCons (gName 10) (gNil)))) rfl sc_fallen.nd (pi_listK (K := K) (pv 7)) (blkOk_by (own := [("cap", 9), ("far", 10)]) (N := N_fallen) (sc := defScope s_fallen) (by decide +kernel)) (fun _ _ _ _ _ => pg_tup rfl (pgs_cons (pg_name (i := 9) sc_fallen.nd rfl (by first | exact Or.inl rfl | exact Or.inr rfl)) (pgs_cons (pg_name (i := 10) sc_fallen.nd rfl (by first | exact Or.inl rfl | exact Or.inr rfl)) (pgs_nil)))) (fun _ _ _ _ _ => pts_one (pt_cmpR op_notN (pv 10) (pe_non) (nomark _))) (fun _ _ _ _ _ => (pe_op op_add (pv 9) (pv 10)))) pa_nil)) pa_nil))))))
      (pss_one (ps_ret (pv 4))))))), fun b Q sb k => ?_⟩
  try dsimp only
  try dsimp only at k
  obtain ⟨ht, hlen⟩ := hp
  have n1 : 1 ≤ n := ht.ok.n1
  have n8 : n ≤ 8 := ht.ok.n8
  refine sq_asgX (evx_disp1 (x := (0 : Int)) I (fun O => ev_int) (fun O => ev_int)) fun d => ?_
  refine sq_for (vs := [5, 6]) (src_enumk (ea_cons (ev_var rfl) (ea_cons (ev_int) ea_nil)) (by decide) (by decide)) (fun i => [some (Tab K n rs (tabs n rs)), some (L I stand), some (Dc I ends), some (At d), none, none, none, none, none, none, none]) (fun i => [(d, oD I ((0, 0) :: ((en 1 stand).take i).map fun z => (z.1, cap1 ends z)))]) (fun i z => [some (Tab K n rs (tabs n rs)), some (L I stand), some (Dc I ends), some (At d), none, some (I z.1), some (I z.2), none, none, none, none])
    (.yes rfl (.yes rfl (.yes rfl (.yes rfl (.no (.no (.no (.no (.no (.no (.no .nil))))))))))) rfl (fun i z hz => tg_pps (tg_name) (tg_name)) (fun b1 r1 i z hz => ?_) ?_
  · have e1 := (en_get hz).1
    have key : ((0, 0) :: ((en 1 stand).take (i + 1)).map fun z => (z.1, cap1 ends z)) = dp ((0, 0) :: ((en 1 stand).take i).map fun z => (z.1, cap1 ends z)) z.1 (cap1 ends z) := by
      rw [dp_new fun hm => ?_]
      · rw [List.take_succ, hz]
        simp
      · rw [List.map_cons] at hm
        rcases List.mem_cons.mp hm with h0 | hm
        · simp only at h0
          omega
        · rw [List.map_map] at hm
          obtain ⟨y, hy, e2⟩ := List.mem_map.mp hm
          obtain ⟨j, hj⟩ := List.mem_iff_getElem?.mp hy
          rw [List.getElem?_take] at hj
          split at hj
          · have := (en_get hj).1
            simp only [Function.comp] at e2
            omega
          · cases hj
    rw [key]
    refine go_dput (f := I) (x := cap1 ends z) (ev_cb (ea_cons (ev_var rfl) (ea_cons (ev_dget2 (ev_var rfl) (ev_var rfl) (ev_var rfl) .seen) ea_nil)) rc_min2) (ev_var rfl) (ev_var rfl) ?_ (nx_pst (.yes rfl (.yes rfl (.yes rfl (.yes rfl (.no (.no (.no (.no (.no (.no (.no .nil))))))))))))
    have h1 := List.length_take (i := i) (l := en 1 stand)
    have h2 := en_length 1 stand
    simp only [List.length_cons, List.length_map]
    omega
  rw [List.take_length]
  have hcl := caps_len stand ends
  refine sq_asgX (evx_lst I [] ea_nil) fun l => ?_
  refine go_perm (O' := [(d, oD I (m_caps stand ends)), (l, oL I [])]) (List.Perm.swap _ _ _) ?_
  refine sq_for (vs := [5]) (src_rng2 (ea_cons (ev_int) (ea_cons (ev_op (ev_cb (ea_cons (ev_var rfl) ea_nil) rc_lenL) (ev_int) rv_add) ea_nil)) (by decide) (by decide) (by omega) (by omega)) (fun i => [some (Tab K n rs (tabs n rs)), some (L I stand), some (Dc I ends), some (At d), some (At l), none, none, none, none, none, none]) (fun i => [(d, oD I (m_caps stand ends)), (l, oL I (((rg 1 ((stand.length : Int) + 1)).take i).map (fall1 n rs stand ends)))]) (fun i z => [some (Tab K n rs (tabs n rs)), some (L I stand), some (Dc I ends), some (At d), some (At l), some (I z), none, none, none, none, none])
    (.yes rfl (.yes rfl (.yes rfl (.yes rfl (.yes rfl (.no (.no (.no (.no (.no (.no .nil))))))))))) rfl (fun i z hz => tg_name) (fun b1 r1 i z hz => ?_) ?_
  · have hz2 := rg_get hz
    have z1 : 1 ≤ z := by omega
    have zn : z ≤ n := by omega
    refine sq_lock (Gn := [some (Tab K n rs (tabs n rs)), some (L I stand), some (Dc I ends), some (At d), some (At l), some (I z), none, some (L (fun y : Int × Option Int => Tp [I y.1, Op y.2]) (m_low n rs (m_caps stand ends) z)), none, none, none]) (On := [(l, oL I (((rg 1 ((stand.length : Int) + 1)).take i).map (fall1 n rs stand ends)))]) ?_ fun b2 od vs lk D1 hn _ => ?_
    · refine nx_perm (List.Perm.swap _ _ _) ?_
      refine go_app (xs := ((rg 1 ((stand.length : Int) + 1)).take i).map (fall1 n rs stand ends)) (x := fall1 n rs stand ends z) (ev_var rfl) (ev_cb (ea_cons (ev_lc I (fun y : Int × Option Int => !y.2.isNone) (fun y => y.1 + y.2.getD 0) (fun y => [some (Tab K n rs (tabs n rs)), some (L I stand), some (Dc I ends), some (At d), some (At l), some (I z), none, some (L (fun y : Int × Option Int => Tp [I y.1, Op y.2]) (m_low n rs (m_caps stand ends) z)), none, some (I y.1), some (Op y.2)]) (src_list (ev_var rfl)) (fun y _ => tg_pps (tg_name) (tg_name)) (fun y hy O => (et_test (ev_op (ev_var rfl) (ev_non) rv_notN))) (fun y hy hc O => (ev_op (ev_var rfl) (ev_var (P := I (y.2.getD 0)) (by rw [← op_I hc]; rfl)) rv_add)) ?_) ea_nil) (rc_min (some_ne z1 (by omega)))) ⟨_, _, List.mem_cons_self .., rfl⟩ ?_ ?_
      · unfold m_low
        rw [List.length_map]
        omega
      · have h1 := List.length_take (i := i) (l := rg 1 ((stand.length : Int) + 1))
        rw [List.length_map]
        have h2 := rg_length 1 ((stand.length : Int) + 1)
        omega
      · refine nx_perm (List.Perm.swap _ _ _) (nx_pst' (.yes rfl (.yes rfl (.yes rfl (.yes rfl (.yes rfl (.no (.no (.no (.no (.no (.no .nil))))))))))) ?_)
        rw [List.take_succ, hz]
        simp
    · refine go_asg (ev_lcA (fun y : Int × Option Int => Tp [I y.1, Op y.2]) (fun y => (y.2, (dl (tab n rs y.1) z).map (·.1))) (fun y => [some (Tab K n rs (tabs n rs)), some (L I stand), some (Dc I ends), some (At d), some (At l), some (I z), none, none, some (I y.1), some (I y.2), none]) (src_items lk (ev_var rfl)) (fun y _ => tg_pps (tg_name) (tg_name)) (fun y hy O => (ev_tup (ea_cons (ev_var rfl) (ea_cons (ev_meth (n, rs, z, y.1) (ev_var rfl) (by decide +kernel) (by decide +kernel) (ea_cons (ev_var rfl) (ea_cons (ev_var rfl) ea_nil)) ⟨ht, Int.le_trans (by decide) z1, zn, caps_rng hlen hy⟩) ea_nil)))) (by omega)) ?_
      exact hn
  · rw [List.take_length]
    refine go_perm (O' := [(l, oL I (m_fallen n rs stand ends)), (d, oD I (m_caps stand ends))]) (List.Perm.swap _ _ _) ?_
    refine go_free (i := 4) rfl ?_
    exact goR k.fin (ev_var rfl) rfl

abbrev N_pulls_by : List PySem.Str := ["rig", "stand", "heights", "ends", "down", "found", "turn", "climber", "number", "rope"]
theorem sc_pulls_by : FnScope N_pulls_by ["rig", "stand", "heights", "ends"] (defScope s_pulls_by) := ⟨rfl, rfl, rfl, by decide +kernel, rfl, by decide +kernel, by decide +kernel⟩
abbrev sp_pulls_by (K : PySem.W.Frag) : Sp := Spx (β := Addr) (fun a : Int × List Rope × List Int × List Int × Slips => okRs a.1 a.2.1 ∧ (a.2.2.1.length : Int) = a.1 ∧ (a.2.2.2.1.length : Int) = a.1 ∧ ∀ c ∈ m_down a.1 a.2.2.1 a.2.2.2.1, (dl (pfin a.1 a.2.1 a.2.2.1 a.2.2.2.1 a.2.2.2.2) c).isSome = true) (fun a => [Rg K a.1 a.2.1, L I a.2.2.1, L I a.2.2.2.1, Dc I a.2.2.2.2]) (fun _ => []) (fun _ d => At d) (fun a d => [(d, oD Op (m_pulls a.1 a.2.1 a.2.2.1 a.2.2.2.1 a.2.2.2.2))])
theorem ok_pulls_by (W : Wd K mg) : Fn Pg w K mg base 2 "pulls_by" (sp_pulls_by K) [] := by
  obtain ⟨fd, F⟩ := W.says.def_ 26 (d := d_pulls_by) rfl
  refine ⟨_, fd, ["rig", "stand", "heights", "ends"], [], fn_ok F sc_pulls_by (fun _ => rfl) (by decide) ?_, W.g 26 _ rfl, F.kp, FunD.bindsN F (fun _ _ _ _ _ _ us hl => match us, hl with | [_, _, _, _], _ => rfl), .nil⟩
  rintro cdv A outer s H E hr ⟨n, rs, stand, heights, ends⟩ hp
  try dsimp only at hp
  have hu : (cxOf CX0 Pg w K mg base N_pulls_by "pulls_by" (defScope s_pulls_by) (He.fAd K d_pulls_by.at_) cdv A outer s H E).nox.A.units + 1 < cLine := hu_of hr
  refine ⟨_, (pss_cons (ps_setLc (i := 4) (own := [("climber", 7)]) rfl sc_pulls_by.nd rfl rfl (sw_true rfl rfl rfl (by decide +kernel)) (pi_range2 (by rfl) (W.z 68 _ rfl) (pa_cons (pe_int) (pa_cons (pe_op op_add (pe_mt0 (ok_Rig_many W) (hr.mono (by decide)) W.cRig (pv 0)) (pe_int)) pa_nil))) (blkOk_by (own := [("climber", 7)]) (N := N_pulls_by) (sc := defScope s_pulls_by) (by decide +kernel)) (fun _ _ _ _ _ => pg_name (i := 7) sc_pulls_by.nd rfl (by first | exact Or.inl rfl | exact Or.inr rfl)) (fun _ _ _ _ _ => pts_one (pt_cmpR op_lt (pe_ix (r := rIxL K) ix_list (pv 2) (pe_op op_sub (pv 7) (pe_int)) (fun _ _ => rfl)) (pe_ix (r := rIxL K) ix_list (pv 1) (pe_op op_sub (pv 7) (pe_int)) (fun _ _ => rfl)) (nomark _))) (fun _ _ _ _ _ => (pv 7)))
      (pss_cons (ps_set (i := 5) sc_pulls_by.nd rfl (by first | exact Or.inl rfl | exact Or.inr rfl) (pe_dc (own := [("climber", 7)]) rfl sc_pulls_by.nd (pi_listK (K := K) (pv 4)) (blkOk_by (own := [("climber", 7)]) (N := N_pulls_by) (sc := defScope s_pulls_by) (by decide +kernel)) (fun _ _ _ _ _ => pg_name (i := 7) sc_pulls_by.nd rfl (by first | exact Or.inl rfl | exact Or.inr rfl)) (fun _ _ _ _ _ => pts_one (PW.pt (pw_and (pt_cmp (pc_din hu (pv 7) (pv 3))) (pw_and1 (pt_cmpR op_eq (pe_ix (r := rIxL K) ix_list (pv 2) (pe_op op_sub (pv 7) (pe_int)) (fun _ _ => rfl)) (pe_dget hu (pv 3) (pv 7) (fun _ _ => rfl)) (nomark _)))))) (fun _ _ _ _ _ => (pv 7)) (fun _ _ _ _ _ => (pe_non))))
      (pss_cons (ps_for PassesOwn.never rfl (pi_range1 (by rfl) (W.z 68 _ rfl) (pa_cons (pe_callB (r := rLenQ K) call_len_seq (by rfl) (W.z 60 _ rfl) PySem.boot_len (pa_cons (pv 4) pa_nil)) pa_nil)) (pg_name (i := 6) sc_pulls_by.nd rfl (by first | exact Or.inl rfl | exact Or.inr rfl)) (pss_one (ps_for PassesOwn.never rfl (pi_enum (by rfl) (W.z 69 _ rfl) (pa_cons (pe_mt0 (ok_Rig_ropes W) (hr.mono (by decide)) W.cRig (pv 0)) pa_nil)) (pg_tup rfl (pgs_cons (pg_name (i := 8) sc_pulls_by.nd rfl (by first | exact Or.inl rfl | exact Or.inr rfl)) (pgs_cons (pg_name (i := 9) sc_pulls_by.nd rfl (by first | exact Or.inl rfl | exact Or.inr rfl)) (pgs_nil)))) (pss_one (ps_if (PW.pt (pw_and (pt_cmpR (r := rIn K false) op_in_seq (pe_ix (r := rIxT K) ix_tup (pv 9) (pe_int) (fun _ _ => rfl)) (pv 4) (by rfl)) (pw_and (pt_cmp (pc_dnotin hu (pe_ix (r := rIxT K) ix_tup (pv 9) (pe_int) (fun _ _ => rfl)) (pv 5))) (pw_and (pt_cmp (pc_din hu (pe_ix (r := rIxT K) ix_tup (pv 9) (pe_int) (fun _ _ => rfl)) (pv 5))) (pw_and1 (pt_cmpR op_eq (pe_fn (ok_room_by W) (hr.mono (by decide)) (by rfl) (pa_cons (pv 9) (pa_cons (pv 2) pa_nil))) (pe_int) (nomark _))))))) (pss_one (ps_dput hu (pv 5) (pe_ix (r := rIxT K) ix_tup (pv 9) (pe_int) (fun _ _ => rfl)) (pv 8) rfl)) pss_nil)))))
      (pss_one (ps_ret (pe_dc (own := [("climber", 7)]) rfl sc_pulls_by.nd (pi_listK (K := K) (pv 4)) (blkOk_by (own := [("climber", 7)]) (N := N_pulls_by) (sc := defScope s_pulls_by) (by decide +kernel)) (fun _ _ _ _ _ => pg_name (i := 7) sc_pulls_by.nd rfl (by first | exact Or.inl rfl | exact Or.inr rfl)) (fun _ _ _ _ _ => pts_nil) (fun _ _ _ _ _ => (pv 7)) (fun _ _ _ _ _ => (pe_dget hu (pv 5) (pv 7) (fun _ _ => rfl))))))))), fun b Q sb k => ?_⟩
  try dsimp only
  try dsimp only at k
  obtain ⟨hok, l1, l2, hall⟩ := hp
  have n1 : 1 ≤ n := hok.n1
  have n8 : n ≤ 8 := hok.n8
  have hlen := hok.len
  have hdl := down_len (n := n) stand heights
  refine sq_asg (P := L I (m_down n stand heights)) (ev_lcF I (fun c => decide (hi heights c < hi stand c)) (fun z => [some (Rg K n rs), some (L I stand), some (L I heights), some (Dc I ends), none, none, none, some (I z), none, none]) (src_rng2 (ea_cons (ev_int) (ea_cons (ev_op (ev_meth (n, rs) (ev_var rfl) (by decide +kernel) (by decide +kernel) ea_nil trivial) (ev_int) rv_add) ea_nil)) (by decide) (by decide) (by omega) (by omega)) (fun z _ => tg_name) (fun z hz O => (et_test (ev_op (ev_op (ev_var rfl) (ev_op (ev_var rfl) (ev_int) rv_sub) (rv_ixL (hi_at1 ?_ ?_))) (ev_op (ev_var rfl) (ev_op (ev_var rfl) (ev_int) rv_sub) (rv_ixL (hi_at1 ?_ ?_))) rv_lt))) (fun z hz hc O => (ev_var rfl)) ?_) ?_
  · exact (mem_rg.mp hz).1
  · have := (mem_rg.mp hz).2
    omega
  · exact (mem_rg.mp hz).1
  · have := (mem_rg.mp hz).2
    omega
  · rw [rg_length]
    omega
  refine sq_asgX (evx_dc Op (ends1 heights ends) (fun z => z) (fun z => none) (fun z => [some (Rg K n rs), some (L I stand), some (L I heights), some (Dc I ends), some (L I (m_down n stand heights)), none, none, some (I z), none, none]) (src_list (ev_var rfl)) (fun z _ => tg_name) (fun z hz O => et_and (et_B (ev_din (ev_var rfl) (ev_var rfl) .seen)) fun hc => (et_test (ev_op (ev_op (ev_var rfl) (ev_op (ev_var rfl) (ev_int) rv_sub) (rv_ixL (hi_at1 ?_ ?_))) (ev_dget (x := (dl ends z).getD 0) (ev_var rfl) (ev_var rfl) .seen ?_) rv_eq))) (fun z hz hc O => ev_var rfl) (fun z hz hc O => ev_non) ?_ ?_) fun d => ?_
  · exact (down_rng hz).1
  · have := (down_rng hz).2
    omega
  · obtain ⟨x, hx⟩ := Option.isSome_iff_exists.mp hc
    rw [hx]
    rfl
  · show (m_down n stand heights).length < 100000
    omega
  · rw [List.map_id']
    exact down_nd n stand heights
  refine sq_for (vs := [6]) (src_rng1 (ea_cons (ev_cb (ea_cons (ev_var rfl) ea_nil) rc_lenL) ea_nil) ?_ ?_) (fun i => [some (Rg K n rs), some (L I stand), some (L I heights), some (Dc I ends), some (L I (m_down n stand heights)), some (At d), none, none, none, none]) (fun i => [(d, oD Op (pit rs heights (m_down n stand heights) i (pull0 heights (m_down n stand heights) ends)))]) (fun i z => [some (Rg K n rs), some (L I stand), some (L I heights), some (Dc I ends), some (L I (m_down n stand heights)), some (At d), some (I z), none, none, none]) (.yes rfl (.yes rfl (.yes rfl (.yes rfl (.yes rfl (.yes rfl (.no (.no (.no (.no .nil)))))))))) rfl (fun i z hz => tg_name) (fun b1 r1 t z hz => ?_) ?_
  · omega
  · omega
  · have ht := (rg_get hz).2
    have hp0 : (pit rs heights (m_down n stand heights) t (pull0 heights (m_down n stand heights) ends)).length ≤ 8 + 8 * 60 := by
      have h1 := pit_len (rs := rs) (hs := heights) (down := m_down n stand heights) t (pull0 heights (m_down n stand heights) ends)
      have h2 : (pull0 heights (m_down n stand heights) ends).length ≤ (m_down n stand heights).length := by
        unfold pull0
        rw [List.length_map]
        exact List.length_filter_le _ _
      have h3 : t * rs.length ≤ 8 * 60 := Nat.mul_le_mul (by omega) hlen
      omega
    refine go_for (vs := [8, 9]) (src_enum (ea_cons (ev_meth (n, rs) (ev_var rfl) (by decide +kernel) (by decide +kernel) ea_nil trivial) ea_nil)) (fun i => [some (Rg K n rs), some (L I stand), some (L I heights), some (Dc I ends), some (L I (m_down n stand heights)), some (At d), none, none, none, none]) (fun i => [(d, oD Op (((en 0 rs).take i).foldl (pstep heights (m_down n stand heights)) (pit rs heights (m_down n stand heights) t (pull0 heights (m_down n stand heights) ends))))]) (fun i z => [some (Rg K n rs), some (L I stand), some (L I heights), some (Dc I ends), some (L I (m_down n stand heights)), some (At d), none, none, some (I z.1), some (Ro z.2)]) (.yes rfl (.yes rfl (.yes rfl (.yes rfl (.yes rfl (.yes rfl (.no (.no (.no (.no .nil)))))))))) rfl (fun i z hz => tg_pps (tg_name) (tg_name)) (fun b2 r2 i z hz => ?_) ?_
    · have hst : ((en 0 rs).take (i + 1)).foldl (pstep heights (m_down n stand heights)) (pit rs heights (m_down n stand heights) t (pull0 heights (m_down n stand heights) ends)) = pstep heights (m_down n stand heights) (((en 0 rs).take i).foldl (pstep heights (m_down n stand heights)) (pit rs heights (m_down n stand heights) t (pull0 heights (m_down n stand heights) ends))) z := by
        rw [List.take_succ, hz, List.foldl_append]
        rfl
      have hl2 := pfold_len (hs := heights) (down := m_down n stand heights) ((en 0 rs).take i) (pit rs heights (m_down n stand heights) t (pull0 heights (m_down n stand heights) ends))
      have hl3 := List.length_take (i := i) (l := en 0 rs)
      have hl4 := en_length 0 rs
      have hr := hok.all z.2 (en_mem (List.mem_of_getElem? hz))
      rw [hst]
      generalize ((en 0 rs).take i).foldl (pstep heights (m_down n stand heights)) (pit rs heights (m_down n stand heights) t (pull0 heights (m_down n stand heights) ends)) = acc at hl2 ⊢
      refine go_if (et_and (et_test (ev_op (ev_op (ev_var rfl) (ev_int) (rv_ixT rfl)) (ev_var rfl) rv_inL)) fun _ => (et_and (et_B (ev_dnotin (ev_op (ev_var rfl) (ev_int) (rv_ixT rfl)) (ev_var rfl) (.own (List.mem_cons_self ..)))) fun _ => (et_and (et_B (ev_din (ev_op (ev_var rfl) (ev_int) (rv_ixT rfl)) (ev_var rfl) (.own (List.mem_cons_self ..)))) fun _ => (et_test (ev_op (ev_call (z.2, heights) (ea_cons (ev_var rfl) (ea_cons (ev_var rfl) ea_nil)) ⟨by rw [l2]; exact hr, by show heights.length ≤ 1000; omega⟩) (ev_int) rv_eq))))) (fun h => ?_) fun h => ?_
      · have e : pstep heights (m_down n stand heights) acc z = dp acc z.2.1 (some z.1) := if_pos h
        rw [e]
        exact go_dput (f := Op) (x := some z.1) (ev_var rfl) (ev_var rfl) (ev_op (ev_var rfl) (ev_int) (rv_ixT rfl)) (by omega) (nx_pst (.yes rfl (.yes rfl (.yes rfl (.yes rfl (.yes rfl (.yes rfl (.no (.no (.no (.no .nil)))))))))))
      · have e : pstep heights (m_down n stand heights) acc z = acc := if_neg (by rw [h]; decide)
        rw [e]
        exact go_next (nx_pst (.yes rfl (.yes rfl (.yes rfl (.yes rfl (.yes rfl (.yes rfl (.no (.no (.no (.no .nil)))))))))))
    · rw [List.take_length]
      exact nx_pst (.yes rfl (.yes rfl (.yes rfl (.yes rfl (.yes rfl (.yes rfl (.no (.no (.no (.no .nil))))))))))
  rw [rg_length]
  have e0 : (((m_down n stand heights).length : Int) - 0).toNat = (m_down n stand heights).length := by omega
  rw [e0]
  refine go_free (i := 5) rfl ?_
  exact go_retX (evx_dcA Op (fun z => z) (fun z => (dl (pfin n rs stand heights ends) z).getD none) (fun z => [some (Rg K n rs), some (L I stand), some (L I heights), some (Dc I ends), some (L I (m_down n stand heights)), some (Dc Op (pfin n rs stand heights ends)), none, some (I z), none, none]) (src_list (ev_var rfl)) (fun z _ => tg_name) (fun z hz O => ev_var rfl) (fun z hz O => (ev_dget (ev_var rfl) (ev_var rfl) .seen (by
    obtain ⟨x, hx⟩ := Option.isSome_iff_exists.mp (hall z hz)
    rw [hx]
    rfl))) (by show (m_down n stand heights).length < 100000; omega) (by rw [List.map_id']; exact down_nd n stand heights)) (fun d => d) (fun _ x hx => hx) (fun _ hn => hn) (fun _ => rfl) k

abbrev N_turned_over : List PySem.Str := ["heights", "height"]
theorem sc_turned_over : FnScope N_turned_over ["heights"] (defScope s_turned_over) := ⟨rfl, rfl, rfl, by decide +kernel, rfl, by decide +kernel, by decide +kernel⟩
abbrev sp_turned_over (K : PySem.W.Frag) : Sp := Spx (β := Addr) (fun a : List Int => a.length ≤ 1000) (fun a => [L I a]) (fun _ => []) (fun _ l => At l) (fun a l => [(l, oL I (neg a))])
theorem ok_turned_over (W : Wd K mg) : Fn Pg w K mg base 1 "turned_over" (sp_turned_over K) [] := by
  obtain ⟨fd, F⟩ := W.says.def_ 32 (d := d_turned_over) rfl
  refine ⟨_, fd, ["heights"], [], fn_ok F sc_turned_over (fun _ => rfl) (by decide) ?_, W.g 32 _ rfl, F.kp, FunD.bindsN F (fun _ _ _ _ _ _ us hl => match us, hl with | [_], _ => rfl), .nil⟩
  rintro cdv A outer s H E hr heights hp
  try dsimp only at hp
  refine ⟨_, (pss_one (ps_ret (pe_lc (own := [("height", 1)]) rfl sc_turned_over.nd (pi_listK (K := K) (pv 0)) (blkOk_by (own := [("height", 1)]) (N := N_turned_over) (sc := defScope s_turned_over) (by decide +kernel)) (fun _ _ _ _ _ => pg_name (i := 1) sc_turned_over.nd rfl (by first | exact Or.inl rfl | exact Or.inr rfl)) (fun _ _ _ _ _ => pts_nil) (fun _ _ _ _ _ => (pe_op op_sub (pe_int) (pv 1)))))), fun b Q sb k => ?_⟩
  try dsimp only
  try dsimp only at k
  exact go_retX (evx_lcA I (fun z => 0 - z) (fun z => [_, some (I z)]) (src_list (ev_var rfl)) (fun z _ => tg_name) (fun z hz O => ev_op ev_int (ev_var rfl) rv_sub) (by omega)) (fun l => l) (fun _ x hx => hx) (fun _ hn => hn) (fun _ => rfl) k

abbrev N_turned_slips : List PySem.Str := ["lifts", "climber", "to"]
theorem sc_turned_slips : FnScope N_turned_slips ["lifts"] (defScope s_turned_slips) := ⟨rfl, rfl, rfl, by decide +kernel, rfl, by decide +kernel, by decide +kernel⟩
abbrev sp_turned_slips (K : PySem.W.Frag) : Sp := SpP (fun a : Bool × Slips => a.2.length ≤ 1000) (fun a => [SL a.1 a.2]) (fun a => L PII (negS a.2))
theorem ok_turned_slips (W : Wd K mg) : Fn Pg w K mg base 1 "turned_slips" (sp_turned_slips K) [] := by
  obtain ⟨fd, F⟩ := W.says.def_ 33 (d := d_turned_slips) rfl
  refine ⟨_, fd, ["lifts"], [], fn_ok F sc_turned_slips (fun _ => rfl) (by decide) ?_, W.g 33 _ rfl, F.kp, FunD.bindsN F (fun _ _ _ _ _ _ us hl => match us, hl with | [_], _ => rfl), .nil⟩
  rintro cdv A outer s H E hr ⟨c, lifts⟩ hp
  try dsimp only at hp
  cases c
  · refine ⟨_, (pss_one (ps_ret (pe_lc (own := [("climber", 1), ("to", 2)]) (g := gTup K 2 (gCons (gName 1) (gCons (gName 2) (gNil)))) rfl sc_turned_slips.nd (pi_listK (K := K) (pv 0)) (blkOk_by (own := [("climber", 1), ("to", 2)]) (N := N_turned_slips) (sc := defScope s_turned_slips) (by decide +kernel)) (fun _ _ _ _ _ => pg_tup rfl (pgs_cons (pg_name (i := 1) sc_turned_slips.nd rfl (by first | exact Or.inl rfl | exact Or.inr rfl)) (pgs_cons (pg_name (i := 2) sc_turned_slips.nd rfl (by first | exact Or.inl rfl | exact Or.inr rfl)) (pgs_nil)))) (fun _ _ _ _ _ => pts_nil) (fun _ _ _ _ _ => (pe_tup (pa_cons (pv 1) (pa_cons (pe_op op_sub (pe_int) (pv 2)) pa_nil))))))), fun b Q sb k => ?_⟩
    try dsimp only
    try dsimp only at k
    exact goR k.fin (ev_lcA PII (fun z => (z.1, 0 - z.2)) (fun z => [_, some (I z.1), some (I z.2)]) (src_list (ev_var rfl)) (fun z _ => tg_pps (tg_name) (tg_name)) (fun z hz O => ev_tup (ea_cons (ev_var rfl) (ea_cons (ev_op ev_int (ev_var rfl) rv_sub) ea_nil))) (by omega)) rfl
  · refine ⟨_, (pss_one (ps_ret (pe_lc (own := [("climber", 1), ("to", 2)]) (g := gTup K 2 (gCons (gName 1) (gCons (gName 2) (gNil)))) rfl sc_turned_slips.nd (pi_tupK (K := K) (pv 0)) (blkOk_by (own := [("climber", 1), ("to", 2)]) (N := N_turned_slips) (sc := defScope s_turned_slips) (by decide +kernel)) (fun _ _ _ _ _ => pg_tup rfl (pgs_cons (pg_name (i := 1) sc_turned_slips.nd rfl (by first | exact Or.inl rfl | exact Or.inr rfl)) (pgs_cons (pg_name (i := 2) sc_turned_slips.nd rfl (by first | exact Or.inl rfl | exact Or.inr rfl)) (pgs_nil)))) (fun _ _ _ _ _ => pts_nil) (fun _ _ _ _ _ => (pe_tup (pa_cons (pv 1) (pa_cons (pe_op op_sub (pe_int) (pv 2)) pa_nil))))))), fun b Q sb k => ?_⟩
    try dsimp only
    try dsimp only at k
    exact goR k.fin (ev_lcA PII (fun z => (z.1, 0 - z.2)) (fun z => [_, some (I z.1), some (I z.2)]) (src_tup (ev_var rfl)) (fun z _ => tg_pps (tg_name) (tg_name)) (fun z hz O => ev_tup (ea_cons (ev_var rfl) (ea_cons (ev_op ev_int (ev_var rfl) rv_sub) ea_nil))) (by omega)) rfl

abbrev N_fall : List PySem.Str := ["rig", "stand", "slips", "table", "stops", "ends", "heights"]
theorem sc_fall : FnScope N_fall ["rig", "stand", "slips"] (defScope s_fall) := ⟨rfl, rfl, rfl, by decide +kernel, rfl, by decide +kernel, by decide +kernel⟩
abbrev sp_fall (K : PySem.W.Frag) : Sp := Spx (β := Addr × Addr) (fun a : Int × List Rope × List Int × Slips => okF a.1 a.2.1 a.2.2.1 a.2.2.2) (fun a => [Rg K a.1 a.2.1, L I a.2.2.1, L PII a.2.2.2]) (fun _ => []) (fun a y => Tp [L I (f_hs a.1 a.2.1 a.2.2.1 a.2.2.2), At y.1, At y.2]) (fun a y => [(y.1, oD Op (f_pulls a.1 a.2.1 a.2.2.1 a.2.2.2)), (y.2, oD (L I) (m_stops a.1 a.2.1 a.2.2.2))])
theorem ok_fall (W : Wd K mg) : Fn Pg w K mg base 8 "fall" (sp_fall K) [] := by
  obtain ⟨fd, F⟩ := W.says.def_ 27 (d := d_fall) rfl
  refine ⟨_, fd, ["rig", "stand", "slips"], [], fn_ok F sc_fall (fun _ => rfl) (by decide) ?_, W.g 27 _ rfl, F.kp, FunD.bindsN F (fun _ _ _ _ _ _ us hl => match us, hl with | [_, _, _], _ => rfl), .nil⟩
  rintro cdv A outer s H E hr ⟨n, rs, stand, slips⟩ hp
  try dsimp only at hp
  refine ⟨_, (pss_cons (ps_expr (pe_fn (ok_look_at_stand W) (hr.mono (by decide)) (by rfl) (pa_cons (pv 0) (pa_cons (pv 1) pa_nil))))
      (pss_cons (ps_expr (pe_fn (ok_look_at_slips W) (hr.mono (by decide)) (by rfl) (pa_cons (pv 0) (pa_cons (pv 2) pa_nil))))
      (pss_cons (ps_set (i := 3) sc_fall.nd rfl (by first | exact Or.inl rfl | exact Or.inr rfl) (pe_mk (ok_Table_init W) (hr.mono (by decide)) (by rfl) (pa_cons (pv 0) pa_nil)))
      (pss_cons (ps_set (i := 4) sc_fall.nd rfl (by first | exact Or.inl rfl | exact Or.inr rfl) (pe_fn (ok_stops_by W) (hr.mono (by decide)) (by rfl) (pa_cons (pv 3) (pa_cons (pv 2) pa_nil))))
      (pss_cons (ps_set (i := 5) sc_fall.nd rfl (by first | exact Or.inl rfl | exact Or.inr rfl) (pe_fn (ok_ends_by W) (hr.mono (by decide)) (by rfl) (pa_cons (pv 0) (pa_cons (pv 2) (pa_cons (pv 4) pa_nil)))))
      (pss_cons (ps_set (i := 6) sc_fall.nd rfl (by first | exact Or.inl rfl | exact Or.inr rfl) (pe_fn (ok_fallen W) (hr.mono (by decide)) (by rfl) (pa_cons (pv 3) (pa_cons (pv 1) (pa_cons (pv 5) pa_nil)))))
      (pss_one (ps_ret (pe_tup (pa_cons (pv 6) (pa_cons (pe_fn (ok_pulls_by W) (hr.mono (by decide)) (by rfl) (pa_cons (pv 0) (pa_cons (pv 1) (pa_cons (pv 6) (pa_cons (pv 5) pa_nil))))) (pa_cons (pv 4) pa_nil)))))))))))), fun b Q sb k => ?_⟩
  try dsimp only
  try dsimp only at k
  have hok := hp.t.ok
  have hl := hp.ks.len
  refine sq_drop (ev_call (n, rs, stand) (ea_cons (ev_var rfl) (ea_cons (ev_var rfl) ea_nil)) ⟨hok, hp.s1⟩) ?_
  refine sq_drop (ev_call (false, n, rs, slips) (ea_cons (ev_var rfl) (ea_cons (ev_var rfl) ea_nil)) hp.ks) ?_
  refine sq_asg (ev_make (n, rs) (ea_cons (ev_var rfl) ea_nil) hp.t) ?_
  refine sq_asgX (evx_call (R := []) (n, rs, slips) (ea_cons (ev_var rfl) (ea_cons (ev_var rfl) ea_nil)) ⟨hp.t, hp.ks⟩) fun ds => ?_
  refine sq_asgX (evx_call (R := []) (ds, n, rs, slips, m_stops n rs slips) (ea_cons (ev_var rfl) (ea_cons (ev_var rfl) (ea_cons (ev_var rfl) ea_nil))) ⟨hok, hp.ks, hp.ch, Nat.le_trans (stops_len slips) hl⟩) fun de => ?_
  refine go_perm (O' := [(de, oD I (f_ends n rs slips)), (ds, oD (L I) (m_stops n rs slips))]) (List.Perm.swap _ _ _) ?_
  refine go_free (i := 5) rfl ?_
  refine sq_asg (ev_call (n, rs, stand, f_ends n rs slips) (ea_cons (ev_var rfl) (ea_cons (ev_var rfl) (ea_cons (ev_var rfl) ea_nil))) ⟨hp.t, hp.s1.len⟩) ?_
  have hfl : ((f_hs n rs stand slips).length : Int) = n := by
    have h1 := hp.s1.len
    unfold f_hs m_fallen
    rw [List.length_map, rg_length]
    omega
  exact go_retX (evx_tup (eax_cons (ev_var rfl) (eax_both (evx_call (R := [(ds, oD (L I) (m_stops n rs slips))]) (n, rs, stand, f_hs n rs stand slips, f_ends n rs slips) (ea_cons (ev_var rfl) (ea_cons (ev_var rfl) (ea_cons (ev_var rfl) (ea_cons (ev_var rfl) ea_nil)))) ⟨hok, hp.s1.len, hfl, hp.dn⟩) fun dp => eax_of (ea_cons (ev_var rfl) ea_nil))) (fun _ => by simp)) (fun z => (z.1, ds)) (fun _ x hx => hx) (fun _ hn => hn) (fun _ => rfl) k

end
end Rb

set_option Elab.async false
set_option linter.all false
set_option maxRecDepth 100000
set_option maxHeartbeats 4000000
/-! name = {.. : .. for ..} on one line, the name a plain local -/
namespace Rb
open PySem PySem.Spec PyProof.Rows L2
section
variable {X : Cx}
abbrev Blks (X : Cx) (scope : Scope) (F : Cx → Prop) : Prop := ∀ (s : Shared) (H : Hp) (C : Addr) (cl : List (PySem.Str × Addr)) (fp : List Addr), F (X.blk s H scope (compEnvC scope cl C X.env) fp)
theorem ps_setDc {i : Nat} {y : PySem.Str} {py pos spos : Pos} {kx vx tg iter : Expr} {ifs : List Expr} {scope : Scope} {own : List (PySem.Str × Nat)} {wi : TI} {g : TG} {tt : TT} {tk tv : TE}
    (hc : X.calm = true) (hN : X.N.Nodup) (hy : X.N[i]? = some y) (hyl : X.env.scope.names.lookup y = some .local) (hsw : swapsWith (.DictComp kx vx [⟨tg, iter, ifs, 0⟩] scope pos) (some (.Name y py)) spos.line X.env = pure true)
    (hi : PI X tg iter wi) (bo : BlkOk X.N X.env.scope scope own) (hg : Blks X scope fun Y => PG Y tg g) (ht : Blks X scope fun Y => PTs Y ifs tt) (hk : Blks X scope fun Y => PE Y kx tk) (he : Blks X scope fun Y => PE Y vx tv)
    (hs : ∀ x, foldedSetIterable iter X.env x = pure x := by intro _; rfl) :
    PS X (.Assign [.Name y py] (.DictComp kx vx [⟨tg, iter, ifs, 0⟩] scope pos) spos) (tAsg (tDc wi g tt tk tv (own.map (·.2))) (gName i)) := by
  refine ⟨fun pins s σ H D I ev => ?_⟩
  rw [exec_Assign_Name_used (hs := hsw)]
  refine wpAny_bind (wpAny_standAt (Q := _) (wpAny_bind ?_))
  show wpAny _ X.A (do let _ ← comprehension (.DictComp kx vx [⟨tg, iter, ifs, 0⟩] scope pos) scope X.env (firstIterPos [⟨tg, iter, ifs, 0⟩] pos) newDict false (eval iter X.env) (some (assign (.Name y py) X.env))) _ _ s
  have ev' : tDc wi g tt tk tv (own.map (·.2)) σ H (fun v H1 => gName i v σ H1 D.nx) := ev
  refine wpAny_bind (thn (dc_core (Qf := fun _ s1 => SP X pins D .next s1) hc hN I hi bo hg ht hk he hs ev' fun d C s1 m H1 I1 q hn fo => ?_) fun _ s1 hq => wpAny_pure (wpAny_pure hq))
  obtain ⟨z0, z1, z2, z3, z4, z5⟩ := fo
  show wpAny _ _ (assign (.Name y py) X.env (.ref d)) _ _ _
  refine wpAny_assign_Name (store_ok2 (v := V.ref d) I1 hN hy (.inl hyl) rfl (fun s2 I2 w => ?_) (.inr hyl))
  obtain ⟨a, sb, wa⟩ := w
  have ne : C ≠ a := by
    cases wa with
    | inl z => exact fun e => by rw [e, z] at z1; exact z1 rfl
    | inr z => exact fun e => z4 y a z e.symm
  exact ⟨m, hn.sameBut sb ne, fun h3 sb3 => ⟨_, H1, I2.turned (t' := s2.toks) (fun b o hb e => (sb3.2 b hb).trans e) z0 z1 z3 z4 z5, q⟩⟩
theorem sw_dict {kx vx : Expr} {gs : List Comprehension} {scope : Scope} {pos py : Pos} {y : PySem.Str} {l : Nat} {env : Env} (h1 : env.scope.kind = .function) (h2 : env.scope.names.lookup y = some .local) (h3 : (py.line == pos.line) = true)
    (h4 : (scope.names.any fun (n, k) => n == y && (k == .local || k == .cell)) = false) : swapsWith (.DictComp kx vx gs scope pos) (some (.Name y py)) l env = pure true := by
  have bk : env.blockKind = .function := by
    unfold Env.blockKind
    rw [h1]
    rfl
  have kd : env.kindOf y = some .local := h2
  unfold swapsWith
  simp only [bk, kd, h4, Expr.pos, h3]
  rfl
variable {b : Bs} {G G' G1 : List (Option HP)} {O O1 O2 O' R : List Ow} {t u : TS} {D : Ends} {α γ : Type} {f : α → HP} {kvs : List (Int × α)}
/-- a statement under a lock, what is new behind told by y -/
theorem go_lockX {d : Addr} {Gn : γ → List (Option HP)} {On : γ → List Ow} (hn : ∀ y, Nx b (Gn y) ((d, oD f kvs) :: On y) D.nx)
    (h : ∀ b' od vs, Lk b' d f kvs od vs → ∀ D' : Ends, (∀ y, Nx b' (Gn y) (On y) D'.nx) → Go b' t G R D') : Go b (tLock t) G ((d, oD f kvs) :: R) D := fun σ B H S => by
  obtain ⟨vs, h1, h2⟩ := sta_lock S
  refine ⟨d, _, h1, trivial, fun od => ?_⟩
  obtain ⟨b', hl, S', un, fin, _⟩ := h2 od
  refine h b' od vs hl _ (fun y σ' B' H' S2 => ?_) σ B _ S'
  obtain ⟨q1, q2, q3⟩ := un _ _ _ _ _ S2
  exact ⟨q1, hn y σ' B' _ q3⟩
theorem sq_lockX {d : Addr} {Gn : γ → List (Option HP)} {On : γ → List Ow} (hn : ∀ y, Go b u (Gn y) ((d, oD f kvs) :: On y) D)
    (h : ∀ b' od vs, Lk b' d f kvs od vs → ∀ D' : Ends, (∀ y, Nx b' (Gn y) (On y) D'.nx) → Go b' t G R D') : Go b (tSeq (tLock t) u) G ((d, oD f kvs) :: R) D := go_lockX (D := { D with nx := u D }) hn h
theorem perm3 {α : Type} (x y z : α) : [z, x, y].Perm [x, y, z] := (List.perm_append_comm (l₁ := [z]) (l₂ := [x, y]))
end
end Rb

set_option Elab.async false
set_option linter.all false
set_option maxRecDepth 100000
set_option maxHeartbeats 4000000
namespace Rb
open PySem PySem.Spec PyProof.Rows L2
section
variable {Pg : Program} {w : World} {K : PySem.W.Frag} {mg : Str → Option Value} {base : Heap}
abbrev N_are_stops : List PySem.Str := ["rig", "slips", "heights", "thing", "ends", "climber", "chain", "low"]
theorem sc_are_stops : FnScope N_are_stops ["rig", "slips", "heights", "thing"] (defScope s_are_stops) := ⟨rfl, rfl, rfl, by decide +kernel, rfl, by decide +kernel, by decide +kernel⟩
abbrev sp_are_stops (K : PySem.W.Frag) : Sp := Spx (β := Unit) (fun a : Addr × Int × List Rope × Slips × List Int × Stops => okRs a.2.1 a.2.2.1 ∧ okSl a.2.1 a.2.2.2.1 ∧ (a.2.2.2.2.1.length : Int) = a.2.1 ∧ ∀ z ∈ a.2.2.2.2.2, okStop a.2.1 a.2.2.1 a.2.2.2.1 a.2.2.2.2.1 z) (fun a => [Rg K a.2.1 a.2.2.1, L PII a.2.2.2.1, L I a.2.2.2.2.1, At a.1]) (fun a => [(a.1, oD (L I) a.2.2.2.2.2)]) (fun _ _ => Bo true) (fun a _ => [(a.1, oD (L I) a.2.2.2.2.2)])
theorem ok_are_stops (W : Wd K mg) : Fn Pg w K mg base 8 "are_stops" (sp_are_stops K) [] := by
  obtain ⟨fd, F⟩ := W.says.def_ 28 (d := d_are_stops) rfl
  refine ⟨_, fd, ["rig", "slips", "heights", "thing"], [], fn_ok F sc_are_stops (fun _ => rfl) (by decide) ?_, W.g 28 _ rfl, F.kp, FunD.bindsN F (fun _ _ _ _ _ _ us hl => match us, hl with | [_, _, _, _], _ => rfl), .nil⟩
  rintro cdv A outer s H E hr ⟨d, n, rs, slips, heights, st⟩ hp
  try dsimp only at hp
  have hu : (cxOf CX0 Pg w K mg base N_are_stops "are_stops" (defScope s_are_stops) (He.fAd K d_are_stops.at_) cdv A outer s H E).nox.A.units + 1 < cLine := hu_of hr
  refine ⟨_, (pss_cons (ps_if (pt_not (pt_val (pe_callB (r := rIsi K) call_isi (by rfl) (W.z 59 _ rfl) (by decide +kernel) (pa_cons (pv 3) (pa_cons (pe_bltn (v := .ty "dict") (by rfl) (W.z 65 _ rfl) (by decide +kernel) rfl) pa_nil))))) (pss_one (ps_ret (pe_bl))) pss_nil)
      (pss_cons (ps_set (i := 4) sc_are_stops.nd rfl (by first | exact Or.inl rfl | exact Or.inr rfl) (pe_callTy (r := rDictP K) (call_dictP rfl) (by rfl) (W.z 65 _ rfl) (by decide +kernel) (pa_cons (pv 1) pa_nil)))
      (pss_cons (ps_lock (ps_for PassesOwn.never rfl (pi_items (pv 3)) (pg_tup rfl (pgs_cons (pg_name (i := 5) sc_are_stops.nd rfl (by first | exact Or.inl rfl | exact Or.inr rfl)) (pgs_cons (pg_name (i := 6) sc_are_stops.nd rfl (by first | exact Or.inl rfl | exact Or.inr rfl)) (pgs_nil)))) (pss_cons (ps_if (PW.pt (pw_or (pt_not (pt_val (pe_fn (ok_is_within W) (hr.mono (by decide)) (by rfl) (pa_cons (pv 5) (pa_cons (pe_int) (pa_cons (pe_mt0 (ok_Rig_many W) (hr.mono (by decide)) W.cRig (pv 0)) pa_nil)))))) (pw_or (pt_cmp (pc_dnotin hu (pv 5) (pv 4))) (pw_or1 (pt_not (pt_val (pe_fn (ok_leads W) (hr.mono (by decide)) (by rfl) (pa_cons (pv 0) (pa_cons (pv 6) (pa_cons (pe_int) (pa_cons (pv 5) pa_nil))))))))))) (pss_one (ps_ret (pe_bl))) pss_nil)
      (pss_cons (ps_set (i := 7) sc_are_stops.nd rfl (by first | exact Or.inl rfl | exact Or.inr rfl) (pe_op op_sub (pe_int) (pe_fn (ok_sum_of W) (hr.mono (by decide)) (by rfl) (pa_cons (pv 0) (pa_cons (pv 6) pa_nil)))))
      (pss_one (ps_if (PW.pt (pw_or (pt_cmpR op_le (pv 7) (pe_dget hu (pv 4) (pv 5) (fun _ _ => rfl)) (nomark _)) (pw_or1 (pt_cmpR op_ne (pe_ix (r := rIxL K) ix_list (pv 2) (pe_op op_sub (pv 5) (pe_int)) (fun _ _ => rfl)) (pv 7) (nomark _))))) (pss_one (ps_ret (pe_bl))) pss_nil))))))
      (pss_one (ps_ret (pe_bl)))))), fun b Q sb k => ?_⟩
  try dsimp only
  try dsimp only at k
  obtain ⟨hok, hs, hl, hst⟩ := hp
  refine sq_no (et_not (et_B (ev_cb (ea_cons (ev_var rfl) (ea_cons (ev_ty) ea_nil)) (rc_isi (c := true) (fun _ _ _ => ty_dicO (List.mem_cons_self ..)) (by decide +kernel))))) rfl ?_
  refine sq_asgX (evx_dictP (ea_cons (ev_var rfl) ea_nil) hs.nd) fun e => ?_
  refine go_free (i := 4) rfl ?_
  refine sq_lock (Gn := [some (Rg K n rs), some (L PII slips), some (L I heights), some (At d), some (Dc I slips), none, none, none]) (On := []) ?_ fun b1 od vs lk D1 hn _ => ?_
  · exact goX () k (ev_bl) rfl rfl
  · refine go_for (vs := [5, 6]) (src_items lk (ev_var rfl)) (fun i => [some (Rg K n rs), some (L PII slips), some (L I heights), some (At d), some (Dc I slips), none, none, none]) (fun i => []) (fun i z => [some (Rg K n rs), some (L PII slips), some (L I heights), some (At d), some (Dc I slips), some (I z.1), some (L I z.2), none]) (.yes rfl (.yes rfl (.yes rfl (.yes rfl (.yes rfl (.no (.no (.no .nil)))))))) rfl (fun i z hz => tg_pps (tg_name) (tg_name)) (fun b2 r2 i z hz => ?_) hn
    have h := hst z (List.mem_of_getElem? hz)
    obtain ⟨to, hto, hlt⟩ := h.to
    have hlo := h.lo
    have hup := h.up
    refine sq_no (et_or (et_not (et_B (ev_call (z.1, 1, n) (ea_cons (ev_var rfl) (ea_cons (ev_int) (ea_cons (ev_meth (n, rs) (ev_var rfl) (by decide +kernel) (by decide +kernel) ea_nil trivial) ea_nil))) trivial))) fun _ => (et_or (et_B (ev_dnotin (ev_var rfl) (ev_var rfl) .seen)) fun _ => (et_not (et_B (ev_call (n, rs, z.2, 0, z.1) (ea_cons (ev_var rfl) (ea_cons (ev_var rfl) (ea_cons (ev_int) (ea_cons (ev_var rfl) ea_nil)))) ⟨hok, h.ch⟩))))) ?_ ?_
    · simp [m_is_within, hlo, hup, hto, h.le]
    refine sq_asg (ev_op (ev_int) (ev_call (n, rs, z.2) (ea_cons (ev_var rfl) (ea_cons (ev_var rfl) ea_nil)) ⟨hok, h.ch⟩) rv_sub) ?_
    refine go_no (et_or (et_test (ev_op (ev_var rfl) (ev_dget (ev_var rfl) (ev_var rfl) .seen hto) rv_le)) fun _ => (et_test (ev_op (ev_op (ev_var rfl) (ev_op (ev_var rfl) (ev_int) rv_sub) (rv_ixL (hi_at1 hlo (by omega)))) (ev_var rfl) rv_ne))) ?_ (nx_pst (.yes rfl (.yes rfl (.yes rfl (.yes rfl (.yes rfl (.no (.no (.no .nil)))))))))
    have := h.at_
    simp
    constructor
    · omega
    · omega

abbrev N_is_pull : List PySem.Str := ["rig", "heights", "down", "ends", "climber", "number", "rope"]
theorem sc_is_pull : FnScope N_is_pull ["rig", "heights", "down", "ends", "climber", "number"] (defScope s_is_pull) := ⟨rfl, rfl, rfl, by decide +kernel, rfl, by decide +kernel, by decide +kernel⟩
abbrev sp_is_pull (K : PySem.W.Frag) : Sp := SpP (fun a : Int × List Rope × List Int × List Int × Slips × Int × Option Int => okRs a.1 a.2.1 ∧ (a.2.2.1.length : Int) = a.1 ∧ (1 ≤ a.2.2.2.2.2.1 ∧ a.2.2.2.2.2.1 ≤ a.1) ∧ okPull a.2.1 a.2.2.1 a.2.2.2.1 a.2.2.2.2.1 a.2.2.2.2.2.1 a.2.2.2.2.2.2) (fun a => [Rg K a.1 a.2.1, L I a.2.2.1, L I a.2.2.2.1, Dc I a.2.2.2.2.1, I a.2.2.2.2.2.1, Op a.2.2.2.2.2.2]) (fun a => Bo true)
theorem ok_is_pull (W : Wd K mg) : Fn Pg w K mg base 4 "is_pull" (sp_is_pull K) [] := by
  obtain ⟨fd, F⟩ := W.says.def_ 29 (d := d_is_pull) rfl
  refine ⟨_, fd, ["rig", "heights", "down", "ends", "climber", "number"], [], fn_ok F sc_is_pull (fun _ => rfl) (by decide) ?_, W.g 29 _ rfl, F.kp, FunD.bindsN F (fun _ _ _ _ _ _ us hl => match us, hl with | [_, _, _, _, _, _], _ => rfl), .nil⟩
  rintro cdv A outer s H E hr ⟨n, rs, heights, down, ends, climber, number⟩ hp
  try dsimp only at hp
  have hu : (cxOf CX0 Pg w K mg base N_is_pull "is_pull" (defScope s_is_pull) (He.fAd K d_is_pull.at_) cdv A outer s H E).nox.A.units + 1 < cLine := hu_of hr
  refine ⟨_, (pss_cons (ps_if (pt_cmpR op_isN (pv 5) (pe_non) (nomark _)) (pss_one (ps_ret ((pe_and (pe_cmp (pc_din hu (pv 4) (pv 3))) (pe_one (pe_cmpR op_eq (pe_ix (r := rIxL K) ix_list (pv 1) (pe_op op_sub (pv 4) (pe_int)) (fun _ _ => rfl)) (pe_dget hu (pv 3) (pv 4) (fun _ _ => rfl)) (nomark _))))))) pss_nil)
      (pss_cons (ps_if (pt_not (pt_val (pe_fn (ok_is_within W) (hr.mono (by decide)) (by rfl) (pa_cons (pv 5) (pa_cons (pe_int) (pa_cons (pe_op op_sub (pe_lenOwn (ok_Rig_len W) (hr.mono (by decide)) (by rfl) (W.z 60 _ rfl) (pv 0)) (pe_int)) pa_nil)))))) (pss_one (ps_ret (pe_bl))) pss_nil)
      (pss_cons (ps_set (i := 6) sc_is_pull.nd rfl (by first | exact Or.inl rfl | exact Or.inr rfl) (pe_mt (ok_Rig_rope W) (hr.mono (by decide)) W.cRig (pv 0) (pa_cons (pv 5) pa_nil)))
      (pss_one (ps_ret ((pe_and (pe_cmpR op_eq (pe_ix (r := rIxT K) ix_tup (pv 6) (pe_int) (fun _ _ => rfl)) (pv 4) (nomark _)) (pe_and (pe_cmpR (r := rIn K false) op_in_seq (pe_ix (r := rIxT K) ix_tup (pv 6) (pe_int) (fun _ _ => rfl)) (pv 2) (by rfl)) (pe_one (pe_cmpR op_eq (pe_fn (ok_room_by W) (hr.mono (by decide)) (by rfl) (pa_cons (pv 6) (pa_cons (pv 1) pa_nil))) (pe_int) (nomark _))))))))))), fun b Q sb k => ?_⟩
  try dsimp only
  try dsimp only at k
  obtain ⟨hok, hl, hc, hp⟩ := hp
  have n8 := hok.n8
  cases number with
  | none =>
    have hx : ∃ x, dl ends climber = some x := by
      have : (dl ends climber).isSome = true := by
        have := hp
        simp only [okPull, ends1, Bool.and_eq_true] at this
        exact this.1
      exact Option.isSome_iff_exists.mp this
    obtain ⟨x, hx⟩ := hx
    refine sq_if (c := true) (et_test (ev_op (ev_var rfl) (ev_non) (rv_isN (o := none)))) (fun h => ?_) fun h => by cases h
    refine goR k.fin ((ev_andV (ev_din (ev_var rfl) (ev_var rfl) .seen) fun _ => (ev_op (ev_op (ev_var rfl) (ev_op (ev_var rfl) (ev_int) rv_sub) (rv_ixL (hi_at1 hc.1 (by omega)))) (ev_dget (ev_var rfl) (ev_var rfl) .seen hx) rv_eq))) ?_
    have h2 : ends1 heights ends climber = true := hp
    unfold ends1 at h2
    rw [hx] at h2 ⊢
    exact congrArg Bo h2
  | some q =>
    obtain ⟨q0, q1, q2, q3, q4⟩ := hp
    have hm := hok.all _ (rp_mem q0 q1)
    refine sq_no (et_test (ev_op (ev_var rfl) (ev_non) (rv_isN (o := some q)))) rfl ?_
    refine sq_no (et_not (et_B (ev_call (q, 0, (rs.length : Int) - 1) (ea_cons (ev_var rfl) (ea_cons (ev_int) (ea_cons (ev_op (ev_cb (ea_cons (ev_var rfl) ea_nil) (rc_lenI (n, rs) trivial rfl (Int.natCast_nonneg _) (by have h := hok.len; show (rs.length : Int) < _; omega))) (ev_int) rv_sub) ea_nil))) trivial))) ?_ ?_
    · simp [m_is_within, q0]
      omega
    refine sq_asg (ev_meth (n, rs, q, rp rs q) (ev_var rfl) (by decide +kernel) (by decide +kernel) (ea_cons (ev_var rfl) ea_nil) ⟨rp_at q0 q1, q0⟩) ?_
    refine goR k.fin (ev_andV (ev_op (ev_op (ev_var rfl) (ev_int) (rv_ixT rfl)) (ev_var rfl) rv_eq) fun _ => (ev_andV (ev_op (ev_op (ev_var rfl) (ev_int) (rv_ixT rfl)) (ev_var rfl) rv_inL) fun _ => (ev_op (ev_call (rp rs q, heights) (ea_cons (ev_var rfl) (ea_cons (ev_var rfl) ea_nil)) ⟨by rw [hl]; exact hm, by show heights.length ≤ 1000; omega⟩) (ev_int) rv_eq))) ?_
    have e1 : decide ((rp rs q).1 = climber) = true := decide_eq_true q2
    have e2 : decide ((rp rs q).2.1 ∈ down) = true := decide_eq_true q3
    have e3 : decide (room (rp rs q) heights = 0) = true := decide_eq_true q4
    rw [e1, e2, e3]
    rfl

abbrev N_are_pulls : List PySem.Str := ["rig", "heights", "down", "ends", "thing", "climber", "now", "turn", "number"]
theorem sc_are_pulls : FnScope N_are_pulls ["rig", "heights", "down", "ends", "thing"] (defScope s_are_pulls) := ⟨rfl, rfl, rfl, by decide +kernel, rfl, by decide +kernel, by decide +kernel⟩
abbrev sp_are_pulls (K : PySem.W.Frag) : Sp := Spx (β := Unit) (fun a : Addr × Int × List Rope × List Int × List Int × Slips × Pulls => okRs a.2.1 a.2.2.1 ∧ (a.2.2.2.1.length : Int) = a.2.1 ∧ okPulls a.2.1 a.2.2.1 a.2.2.2.1 a.2.2.2.2.1 a.2.2.2.2.2.1 a.2.2.2.2.2.2) (fun a => [Rg K a.2.1 a.2.2.1, L I a.2.2.2.1, L I a.2.2.2.2.1, Dc I a.2.2.2.2.2.1, At a.1]) (fun a => [(a.1, oD Op a.2.2.2.2.2.2)]) (fun _ _ => Bo true) (fun a _ => [(a.1, oD Op a.2.2.2.2.2.2)])
theorem ok_are_pulls (W : Wd K mg) : Fn Pg w K mg base 5 "are_pulls" (sp_are_pulls K) [] := by
  obtain ⟨fd, F⟩ := W.says.def_ 30 (d := d_are_pulls) rfl
  refine ⟨_, fd, ["rig", "heights", "down", "ends", "thing"], [], fn_ok F sc_are_pulls (fun _ => rfl) (by decide) ?_, W.g 30 _ rfl, F.kp, FunD.bindsN F (fun _ _ _ _ _ _ us hl => match us, hl with | [_, _, _, _, _], _ => rfl), .nil⟩
  rintro cdv A outer s H E hr ⟨d, n, rs, heights, down, ends, pu⟩ hp
  try dsimp only at hp
  have hu : (cxOf CX0 Pg w K mg base N_are_pulls "are_pulls" (defScope s_are_pulls) (He.fAd K d_are_pulls.at_) cdv A outer s H E).nox.A.units + 1 < cLine := hu_of hr
  have hu64 : (cxOf CX0 Pg w K mg base N_are_pulls "are_pulls" (defScope s_are_pulls) (He.fAd K d_are_pulls.at_) cdv A outer s H E).nox.A.units + 64 < cLine := hu64_of hr
  refine ⟨_, (pss_cons (ps_if (PW.pt (pw_or (pt_not (pt_val (pe_callB (r := rIsi K) call_isi (by rfl) (W.z 59 _ rfl) (by decide +kernel) (pa_cons (pv 4) (pa_cons (pe_bltn (v := .ty "dict") (by rfl) (W.z 65 _ rfl) (by decide +kernel) rfl) pa_nil))))) (pw_or1 (pt_not (pt_val (pe_callB (r := rAll K) (cr_all rfl) (by rfl) (W.z 61 _ rfl) (by decide +kernel) (pa_cons (pe_lock (pe_lc (own := [("climber", 5)]) rfl sc_are_pulls.nd (pi_keys (pv 4)) (blkOk_by (own := [("climber", 5)]) (N := N_are_pulls) (sc := defScope s_are_pulls) (by decide +kernel)) (fun _ _ _ _ _ => pg_name (i := 5) sc_are_pulls.nd rfl (by first | exact Or.inl rfl | exact Or.inr rfl)) (fun _ _ _ _ _ => pts_nil) (fun _ _ _ _ _ => (pe_fn (ok_is_within W) (hr.mono (by decide)) (by rfl) (pa_cons (pv 5) (pa_cons (pe_int) (pa_cons (pe_mt0 (ok_Rig_many W) (hr.mono (by decide)) W.cRig (pv 0)) pa_nil))))))) pa_nil))))))) (pss_one (ps_ret (pe_bl))) pss_nil)
      (pss_cons (ps_if (pt_cmpR (r := rNeD K) (op_neD hu64) (pe_callB (r := rSortedDI) (call_sortedDI rfl) (by rfl) (W.z 74 _ rfl) (by decide +kernel) (pa_cons (pv 4) pa_nil)) (pv 2) (nomark _)) (pss_one (ps_ret (pe_bl))) pss_nil)
      (pss_cons (ps_if (pt_not (pt_val (pe_callB (r := rAll K) (cr_all rfl) (by rfl) (W.z 61 _ rfl) (by decide +kernel) (pa_cons (pe_lock (pe_lc (own := [("climber", 5), ("number", 8)]) (g := gTup K 2 (gCons (gName 5) (gCons (gName 8) (gNil)))) rfl sc_are_pulls.nd (pi_items (pv 4)) (blkOk_by (own := [("climber", 5), ("number", 8)]) (N := N_are_pulls) (sc := defScope s_are_pulls) (by decide +kernel)) (fun _ _ _ _ _ => pg_tup rfl (pgs_cons (pg_name (i := 5) sc_are_pulls.nd rfl (by first | exact Or.inl rfl | exact Or.inr rfl)) (pgs_cons (pg_name (i := 8) sc_are_pulls.nd rfl (by first | exact Or.inl rfl | exact Or.inr rfl)) (pgs_nil)))) (fun _ _ _ _ _ => pts_nil) (fun _ _ _ _ _ => (pe_fn (ok_is_pull W) (hr.mono (by decide)) (by rfl) (pa_cons (pv 0) (pa_cons (pv 1) (pa_cons (pv 2) (pa_cons (pv 3) (pa_cons (pv 5) (pa_cons (pv 8) pa_nil)))))))))) pa_nil)))) (pss_one (ps_ret (pe_bl))) pss_nil)
      (pss_cons (ps_for PassesOwn.never rfl (pi_listK (K := K) (pv 2)) (pg_name (i := 5) sc_are_pulls.nd rfl (by first | exact Or.inl rfl | exact Or.inr rfl)) (pss_cons (ps_set (i := 6) sc_are_pulls.nd rfl (by first | exact Or.inl rfl | exact Or.inr rfl) (pv 5))
      (pss_cons (ps_for PassesOwn.never rfl (pi_range1 (by rfl) (W.z 68 _ rfl) (pa_cons (pe_callB (r := rLenQ K) call_len_seq (by rfl) (W.z 60 _ rfl) PySem.boot_len (pa_cons (pv 2) pa_nil)) pa_nil)) (pg_name (i := 7) sc_are_pulls.nd rfl (by first | exact Or.inl rfl | exact Or.inr rfl)) (pss_one (ps_set (i := 6) sc_are_pulls.nd rfl (by first | exact Or.inl rfl | exact Or.inr rfl) (pe_ifExp (pt_cmpR op_isN (pe_dget hu (pv 4) (pv 6) (fun _ _ => rfl)) (pe_non) (nomark _)) (pv 6) (pe_ix (r := rIxT K) ix_tup (pe_mt (ok_Rig_rope W) (hr.mono (by decide)) W.cRig (pv 0) (pa_cons (pe_dget hu (pv 4) (pv 6) (fun _ _ => rfl)) pa_nil)) (pe_int) (fun _ _ => rfl))))))
      (pss_one (ps_if (pt_cmpR op_notN (pe_dget hu (pv 4) (pv 6) (fun _ _ => rfl)) (pe_non) (nomark _)) (pss_one (ps_ret (pe_bl))) pss_nil)))))
      (pss_one (ps_ret (pe_bl))))))), fun b Q sb k => ?_⟩
  try dsimp only
  try dsimp only at k
  obtain ⟨hok, hl, hpu⟩ := hp
  have hdl := hpu.len
  have hpl : pu.length ≤ 8 := by
    have := congrArg List.length hpu.keys
    rw [List.length_map] at this
    omega
  have hrng : ∀ z ∈ pu, z.1 ∈ down := fun z hz => by
    rw [← hpu.keys]
    exact List.mem_map.mpr ⟨z, hz, rfl⟩
  refine sq_no (et_or (et_not (et_B (ev_cb (ea_cons (ev_var rfl) (ea_cons (ev_ty) ea_nil)) (rc_isi (c := true) (fun _ _ _ => ty_dicO (List.mem_cons_self ..)) (by decide +kernel))))) fun _ => (et_not (et_B (ev_cb (ea_cons (ev_lock fun b od vs lk => ev_lcA Bo (fun z => true) (fun z => [some (Rg K n rs), some (L I heights), some (L I down), some (Dc I ends), some (At d), some (I z), none, none, none]) (src_keys lk (ev_var rfl)) (fun z _ => tg_name) (fun z hz O => Ev.cast (ev_call (z, 1, n) (ea_cons (ev_var rfl) (ea_cons (ev_int) (ea_cons (ev_meth (n, rs) (ev_var rfl) (by decide +kernel) (by decide +kernel) ea_nil trivial) ea_nil))) trivial) ?_) ?_) ea_nil) rc_all)))) ?_ ?_
  · have h := hpu.rng z (by rw [← hpu.keys]; exact hz)
    simp [m_is_within, h.1, h.2]
  · show (pu.map (·.1)).length < 100000
    rw [List.length_map]
    omega
  · simp
  refine sq_no (et_test (ev_op (ev_cb (ea_cons (ev_var rfl) ea_nil) (rc_sortedD (List.mem_cons_self ..) (by omega))) (ev_var rfl) rv_neL)) ?_ ?_
  · rw [hpu.keys, srt_id hpu.ord]
    simp
  refine sq_no (et_not (et_B (ev_cb (ea_cons (ev_lock fun b od vs lk => ev_lcA Bo (fun z => true) (fun z => [some (Rg K n rs), some (L I heights), some (L I down), some (Dc I ends), some (At d), some (I z.1), none, none, some (Op z.2)]) (src_items lk (ev_var rfl)) (fun z _ => tg_pps (tg_name) (tg_name)) (fun z hz O => (ev_call (n, rs, heights, down, ends, z.1, z.2) (ea_cons (ev_var rfl) (ea_cons (ev_var rfl) (ea_cons (ev_var rfl) (ea_cons (ev_var rfl) (ea_cons (ev_var rfl) (ea_cons (ev_var rfl) ea_nil)))))) ⟨hok, hl, hpu.rng _ (hrng z hz), hpu.ok z hz⟩)) (by omega)) ea_nil) rc_all))) ?_ ?_
  · simp
  refine sq_for (vs := [5]) (src_list (ev_var rfl)) (fun i => [some (Rg K n rs), some (L I heights), some (L I down), some (Dc I ends), some (At d), none, none, none, none]) (fun i => [(d, oD Op pu)]) (fun i z => [some (Rg K n rs), some (L I heights), some (L I down), some (Dc I ends), some (At d), some (I z), none, none, none]) (.yes rfl (.yes rfl (.yes rfl (.yes rfl (.yes rfl (.no (.no (.no (.no .nil))))))))) rfl (fun i z hz => tg_name) (fun b1 r1 i c hc => ?_) ?_
  · have hcd := List.mem_of_getElem? hc
    refine sq_asg (ev_var rfl) ?_
    refine sq_for (vs := [7]) (src_rng1 (ea_cons (ev_cb (ea_cons (ev_var rfl) ea_nil) rc_lenL) ea_nil) ?_ ?_) (fun i => [some (Rg K n rs), some (L I heights), some (L I down), some (Dc I ends), some (At d), none, some (I (wkn rs pu i c)), none, none]) (fun i => [(d, oD Op pu)]) (fun i z => [some (Rg K n rs), some (L I heights), some (L I down), some (Dc I ends), some (At d), none, some (I (wkn rs pu i c)), some (I z), none]) (.yes rfl (.yes rfl (.yes rfl (.yes rfl (.yes rfl (.no (.yes rfl (.no (.no .nil))))))))) rfl (fun i z hz => tg_name) (fun b2 r2 t z hz => ?_) ?_
    · omega
    · omega
    · obtain ⟨x, hx, hk⟩ := hpu.at (hpu.steps hcd t)
      have e : wkn rs pu (t + 1) c = wk rs pu (wkn rs pu t c) := rfl
      rw [e]
      cases x with
      | none =>
        have e2 : wk rs pu (wkn rs pu t c) = wkn rs pu t c := by
          show (match dl pu (wkn rs pu t c) with | some (some k) => (rp rs k).2.1 | _ => wkn rs pu t c) = _
          rw [hx]
        rw [e2]
        exact go_asg (ev_if (R := I (wkn rs pu t c)) (et_test (ev_op (ev_dget (ev_var rfl) (ev_var rfl) (.own (List.mem_cons_self ..)) hx) (ev_non) (rv_isN (o := none)))) (fun _ => (ev_var rfl)) (fun h => by cases h)) (nx_pst (.yes rfl (.yes rfl (.yes rfl (.yes rfl (.yes rfl (.no (.yes rfl (.no (.no .nil))))))))))
      | some q =>
        obtain ⟨q0, q1, q2, q3, q4⟩ := hk
        have e2 : wk rs pu (wkn rs pu t c) = (rp rs q).2.1 := by
          show (match dl pu (wkn rs pu t c) with | some (some k) => (rp rs k).2.1 | _ => wkn rs pu t c) = _
          rw [hx]
        rw [e2]
        exact go_asg (ev_if (R := I (rp rs q).2.1) (et_test (ev_op (ev_dget (ev_var rfl) (ev_var rfl) (.own (List.mem_cons_self ..)) hx) (ev_non) (rv_isN (o := some q)))) (fun h => by cases h) (fun _ => (ev_op (ev_meth (n, rs, q, rp rs q) (ev_var rfl) (by decide +kernel) (by decide +kernel) (ea_cons (ev_dget (ev_var rfl) (ev_var rfl) (.own (List.mem_cons_self ..)) hx) ea_nil) ⟨rp_at q0 q1, q0⟩) (ev_int) (rv_ixT rfl)))) (nx_pst (.yes rfl (.yes rfl (.yes rfl (.yes rfl (.yes rfl (.no (.yes rfl (.no (.no .nil))))))))))
    · rw [rg_length]
      have e0 : ((down.length : Int) - 0).toNat = down.length := by omega
      rw [e0]
      exact go_no (et_test (ev_op (ev_dget (ev_var rfl) (ev_var rfl) (.own (List.mem_cons_self ..)) (hpu.fin c hcd)) (ev_non) (rv_notN (o := none)))) rfl (nx_pst (.yes rfl (.yes rfl (.yes rfl (.yes rfl (.yes rfl (.no (.no (.no (.no .nil))))))))))
  · exact goX () k (ev_bl) rfl rfl

abbrev N_is_fall : List PySem.Str := ["rig", "stand", "slips", "thing", "ends", "down", "heights", "pulls", "stops", "climber", "end", "height", "before"]
theorem sc_is_fall : FnScope N_is_fall ["rig", "stand", "slips", "thing"] (defScope s_is_fall) := ⟨rfl, rfl, rfl, by decide +kernel, rfl, by decide +kernel, by decide +kernel⟩
abbrev sp_is_fall (K : PySem.W.Frag) : Sp := Spx (β := Unit) (fun a : Addr × Addr × Int × List Rope × List Int × Slips × List Int × Pulls × Stops => okIs a.2.2.1 a.2.2.2.1 a.2.2.2.2.1 a.2.2.2.2.2.1 a.2.2.2.2.2.2.1 a.2.2.2.2.2.2.2.1 a.2.2.2.2.2.2.2.2) (fun a => [Rg K a.2.2.1 a.2.2.2.1, L I a.2.2.2.2.1, L PII a.2.2.2.2.2.1, Tp [L I a.2.2.2.2.2.2.1, At a.1, At a.2.1]]) (fun a => [(a.2.1, oD (L I) a.2.2.2.2.2.2.2.2), (a.1, oD Op a.2.2.2.2.2.2.2.1)]) (fun _ _ => Bo true) (fun a _ => [(a.2.1, oD (L I) a.2.2.2.2.2.2.2.2), (a.1, oD Op a.2.2.2.2.2.2.2.1)])
theorem ok_is_fall (W : Wd K mg) : Fn Pg w K mg base 9 "is_fall" (sp_is_fall K) [] := by
  obtain ⟨fd, F⟩ := W.says.def_ 31 (d := d_is_fall) rfl
  refine ⟨_, fd, ["rig", "stand", "slips", "thing"], [], fn_ok F sc_is_fall (fun _ => rfl) (by decide) ?_, W.g 31 _ rfl, F.kp, FunD.bindsN F (fun _ _ _ _ _ _ us hl => match us, hl with | [_, _, _, _], _ => rfl), .nil⟩
  rintro cdv A outer s H E hr ⟨dp, ds, n, rs, stand, slips, heights, pu, st⟩ hp
  try dsimp only at hp
  refine ⟨_, (pss_cons (ps_expr (pe_fn (ok_look_at_stand W) (hr.mono (by decide)) (by rfl) (pa_cons (pv 0) (pa_cons (pv 1) pa_nil))))
      (pss_cons (ps_expr (pe_fn (ok_look_at_slips W) (hr.mono (by decide)) (by rfl) (pa_cons (pv 0) (pa_cons (pv 2) pa_nil))))
      (pss_cons (ps_if (PW.pt (pw_or (pt_not (pt_val (pe_callB (r := rIsi K) call_isi (by rfl) (W.z 59 _ rfl) (by decide +kernel) (pa_cons (pv 3) (pa_cons (pe_bltn (v := .ty "tuple") (by rfl) (W.z 64 _ rfl) (by decide +kernel) rfl) pa_nil))))) (pw_or (pt_cmpR op_ne (pe_callB (r := rLenQ K) call_len_seq (by rfl) (W.z 60 _ rfl) PySem.boot_len (pa_cons (pv 3) pa_nil)) (pe_int) (nomark _)) (pw_or1 (pt_not (pt_val (pe_fn (ok_is_stand W) (hr.mono (by decide)) (by rfl) (pa_cons (pv 0) (pa_cons (pe_ix (r := rIxT K) ix_tup (pv 3) (pe_int) (fun _ _ => rfl)) pa_nil))))))))) (pss_one (ps_ret (pe_bl))) pss_nil)
      (pss_cons (ps_asg (pv 3) (pg_tup rfl (pgs_cons (pg_name (i := 6) sc_is_fall.nd rfl (by first | exact Or.inl rfl | exact Or.inr rfl)) (pgs_cons (pg_name (i := 7) sc_is_fall.nd rfl (by first | exact Or.inl rfl | exact Or.inr rfl)) (pgs_cons (pg_name (i := 8) sc_is_fall.nd rfl (by first | exact Or.inl rfl | exact Or.inr rfl)) (pgs_nil))))))
      (pss_cons (ps_if (PW.pt (pw_or (pt_val (pe_callB (r := rAny K) (cr_any rfl) (by rfl) (W.z 62 _ rfl) (by decide +kernel) (pa_cons (pe_lc (own := [("height", 11), ("before", 12)]) (g := gTup K 2 (gCons (gName 11) (gCons (gName 12) (gNil)))) rfl sc_is_fall.nd (pi_zip (by rfl) (W.z 70 _ rfl) (pa_cons (pv 6) (pa_cons (pv 1) pa_nil))) (blkOk_by (own := [("height", 11), ("before", 12)]) (N := N_is_fall) (sc := defScope s_is_fall) (by decide +kernel)) (fun _ _ _ _ _ => pg_tup rfl (pgs_cons (pg_name (i := 11) sc_is_fall.nd rfl (by first | exact Or.inl rfl | exact Or.inr rfl)) (pgs_cons (pg_name (i := 12) sc_is_fall.nd rfl (by first | exact Or.inl rfl | exact Or.inr rfl)) (pgs_nil)))) (fun _ _ _ _ _ => pts_nil) (fun _ _ _ _ _ => (pe_cmpR op_gt (pv 11) (pv 12) (nomark _)))) pa_nil))) (pw_or1 (pt_not (pt_val (pe_fn (ok_are_stops W) (hr.mono (by decide)) (by rfl) (pa_cons (pv 0) (pa_cons (pv 2) (pa_cons (pv 6) (pa_cons (pv 8) pa_nil)))))))))) (pss_one (ps_ret (pe_bl))) pss_nil)
      (pss_cons (ps_set (i := 4) sc_is_fall.nd rfl (by first | exact Or.inl rfl | exact Or.inr rfl) (pe_fn (ok_ends_by W) (hr.mono (by decide)) (by rfl) (pa_cons (pv 0) (pa_cons (pv 2) (pa_cons (pv 8) pa_nil)))))
      (pss_cons (ps_if (pt_val (pe_callB (r := rAny K) (cr_any rfl) (by rfl) (W.z 62 _ rfl) (by decide +kernel) (pa_cons (pe_lock (pe_lc (own := [("climber", 9), ("end", 10)]) (g := gTup K 2 (gCons (gName 9) (gCons (gName 10) (gNil)))) rfl sc_is_fall.nd (pi_items (pv 4)) (blkOk_by (own := [("climber", 9), ("end", 10)]) (N := N_is_fall) (sc := defScope s_is_fall) (by decide +kernel)) (fun _ _ _ _ _ => pg_tup rfl (pgs_cons (pg_name (i := 9) sc_is_fall.nd rfl (by first | exact Or.inl rfl | exact Or.inr rfl)) (pgs_cons (pg_name (i := 10) sc_is_fall.nd rfl (by first | exact Or.inl rfl | exact Or.inr rfl)) (pgs_nil)))) (fun _ _ _ _ _ => pts_nil) (fun _ _ _ _ _ => (pe_cmpR op_gt (pe_ix (r := rIxL K) ix_list (pv 6) (pe_op op_sub (pv 9) (pe_int)) (fun _ _ => rfl)) (pv 10) (nomark _))))) pa_nil))) (pss_one (ps_ret (pe_bl))) pss_nil)
      (pss_cons (ps_setLc (i := 5) (own := [("climber", 9)]) rfl sc_is_fall.nd rfl rfl (sw_true rfl rfl rfl (by decide +kernel)) (pi_range2 (by rfl) (W.z 68 _ rfl) (pa_cons (pe_int) (pa_cons (pe_op op_add (pe_mt0 (ok_Rig_many W) (hr.mono (by decide)) W.cRig (pv 0)) (pe_int)) pa_nil))) (blkOk_by (own := [("climber", 9)]) (N := N_is_fall) (sc := defScope s_is_fall) (by decide +kernel)) (fun _ _ _ _ _ => pg_name (i := 9) sc_is_fall.nd rfl (by first | exact Or.inl rfl | exact Or.inr rfl)) (fun _ _ _ _ _ => pts_one (pt_cmpR op_lt (pe_ix (r := rIxL K) ix_list (pv 6) (pe_op op_sub (pv 9) (pe_int)) (fun _ _ => rfl)) (pe_ix (r := rIxL K) ix_list (pv 1) (pe_op op_sub (pv 9) (pe_int)) (fun _ _ => rfl)) (nomark _))) (fun _ _ _ _ _ => (pv 9)))
      (pss_one (ps_ret (pe_fn (ok_are_pulls W) (hr.mono (by decide)) (by rfl) (pa_cons (pv 0) (pa_cons (pv 6) (pa_cons (pv 5) (pa_cons (pv 4) (pa_cons (pv 7) pa_nil)))))))))))))))), fun b Q sb k => ?_⟩
  try dsimp only
  try dsimp only at k
  have hok := hp.ok
  have n1 : 1 ≤ n := hok.n1
  have n8 : n ≤ 8 := hok.n8
  have l1 := hp.s1.len
  have l2 := hp.s2.len
  have hen : ∀ z ∈ m_ends rs slips st, 1 ≤ z.1 ∧ z.1 ≤ n := fun z hz => by
    rcases ends_key hz with h | h
    · obtain ⟨y, hy, e⟩ := List.mem_map.mp h
      rw [← e]
      exact hp.ks.rng y hy
    · obtain ⟨y, hy, e⟩ := List.mem_map.mp h
      rw [← e]
      exact ⟨(hp.kst y hy).lo, (hp.kst y hy).up⟩
  have hel : (m_ends rs slips st).length < 100000 := by
    have h1 := fold_len (rs := rs) st slips
    have h2 := hp.len
    have h3 := hp.ks.len
    omega
  refine sq_drop (ev_call (n, rs, stand) (ea_cons (ev_var rfl) (ea_cons (ev_var rfl) ea_nil)) ⟨hok, hp.s1⟩) ?_
  refine sq_drop (ev_call (false, n, rs, slips) (ea_cons (ev_var rfl) (ea_cons (ev_var rfl) ea_nil)) hp.ks) ?_
  refine sq_no (et_or (et_not (et_B (ev_cb (ea_cons (ev_var rfl) (ea_cons (ev_ty) ea_nil)) (rc_isi (c := true) (fun _ _ _ => ty_tup) (by decide +kernel))))) fun _ => (et_or (et_test (ev_op (ev_cb (ea_cons (ev_var rfl) ea_nil) rc_lenT) (ev_int) rv_ne)) fun _ => (et_not (et_B (ev_call (n, rs, heights) (ea_cons (ev_var rfl) (ea_cons (ev_op (ev_var rfl) (ev_int) (rv_ixT rfl)) ea_nil)) ⟨hok, l2⟩))))) (by simp [hp.s2.broken]) ?_
  refine sq_asgT (vs := [6, 7, 8]) (ev_var rfl) (tg_pps3 (tg_name) (tg_name) (tg_name)) ?_
  refine sq_no (et_or (et_B (ev_cb (ea_cons (ev_lcA Bo (fun z => decide (z.2 < z.1)) (fun z => [some (Rg K n rs), some (L I stand), some (L PII slips), some (Tp [L I heights, At dp, At ds]), none, none, some (L I heights), some (At dp), some (At ds), none, none, some (I z.1), some (I z.2)]) (src_zip (ea_cons (ev_var rfl) (ea_cons (ev_var rfl) ea_nil))) (fun z _ => tg_pps (tg_name) (tg_name)) (fun z hz O => (ev_op (ev_var rfl) (ev_var rfl) rv_gt)) ?_) ea_nil) rc_any)) fun _ => (et_not (et_B (ev_unit (evx_call (R := [(dp, oD Op pu)]) (ds, n, rs, slips, heights, st) (ea_cons (ev_var rfl) (ea_cons (ev_var rfl) (ea_cons (ev_var rfl) (ea_cons (ev_var rfl) ea_nil)))) ⟨hok, hp.ks, l2, hp.kst⟩))))) ?_ ?_
  · rw [List.length_zip]
    omega
  · rw [zip_le l2 l1 hp.le]
    rfl
  refine sq_asgX (evx_call (R := [(dp, oD Op pu)]) (ds, n, rs, slips, st) (ea_cons (ev_var rfl) (ea_cons (ev_var rfl) (ea_cons (ev_var rfl) ea_nil))) ⟨hok, hp.ks, fun z hz => (hp.kst z hz).ch, hp.len⟩) fun de => ?_
  refine go_perm (O' := [(de, oD I (m_ends rs slips st)), (ds, oD (L I) st), (dp, oD Op pu)]) (List.Perm.swap _ _ _) ?_
  refine sq_no (et_B (ev_cb (ea_cons (ev_lock fun b od vs lk => ev_lcA Bo (fun z => decide (z.2 < hi heights z.1)) (fun z => [some (Rg K n rs), some (L I stand), some (L PII slips), some (Tp [L I heights, At dp, At ds]), some (At de), none, some (L I heights), some (At dp), some (At ds), some (I z.1), some (I z.2), none, none]) (src_items lk (ev_var rfl)) (fun z _ => tg_pps (tg_name) (tg_name)) (fun z hz O => (ev_op (ev_op (ev_var rfl) (ev_op (ev_var rfl) (ev_int) rv_sub) (rv_ixL (hi_at1 (hen z hz).1 (by have := (hen z hz).2; omega)))) (ev_var rfl) rv_gt)) hel) ea_nil) rc_any)) ?_ ?_
  · rw [List.any_eq_false]
    intro x hx
    obtain ⟨z, hz, rfl⟩ := List.mem_map.mp hx
    have := hp.en z hz
    simp
    omega
  refine go_free (i := 4) rfl ?_
  refine sq_asg (P := L I (m_down n stand heights)) (ev_lcF I (fun c => decide (hi heights c < hi stand c)) (fun z => [some (Rg K n rs), some (L I stand), some (L PII slips), some (Tp [L I heights, At dp, At ds]), some (Dc I (m_ends rs slips st)), none, some (L I heights), some (At dp), some (At ds), some (I z), none, none, none]) (src_rng2 (ea_cons (ev_int) (ea_cons (ev_op (ev_meth (n, rs) (ev_var rfl) (by decide +kernel) (by decide +kernel) ea_nil trivial) (ev_int) rv_add) ea_nil)) (by decide) (by decide) (by omega) (by omega)) (fun z _ => tg_name) (fun z hz O => (et_test (ev_op (ev_op (ev_var rfl) (ev_op (ev_var rfl) (ev_int) rv_sub) (rv_ixL (hi_at1 ?_ ?_))) (ev_op (ev_var rfl) (ev_op (ev_var rfl) (ev_int) rv_sub) (rv_ixL (hi_at1 ?_ ?_))) rv_lt))) (fun z hz hc O => (ev_var rfl)) ?_) ?_
  · exact (mem_rg.mp hz).1
  · have := (mem_rg.mp hz).2
    omega
  · exact (mem_rg.mp hz).1
  · have := (mem_rg.mp hz).2
    omega
  · rw [rg_length]
    omega
  refine go_perm (O' := [(dp, oD Op pu), (ds, oD (L I) st)]) (List.Perm.swap _ _ _) ?_
  exact goX () k (Ev.perm (ev_unit (evx_call (R := [(ds, oD (L I) st)]) (dp, n, rs, heights, m_down n stand heights, m_ends rs slips st, pu) (ea_cons (ev_var rfl) (ea_cons (ev_var rfl) (ea_cons (ev_var rfl) (ea_cons (ev_var rfl) (ea_cons (ev_var rfl) ea_nil))))) ⟨hok, l2, hp.kpu⟩)) (List.Perm.swap _ _ _)) rfl rfl

abbrev N_rise : List PySem.Str := ["rig", "stand", "lifts", "heights", "pulls", "stops", "climber", "chain"]
theorem sc_rise : FnScope N_rise ["rig", "stand", "lifts"] (defScope s_rise) := ⟨rfl, rfl, rfl, by decide +kernel, rfl, by decide +kernel, by decide +kernel⟩
abbrev sp_rise (K : PySem.W.Frag) : Sp := Spx (β := Addr × Addr × Addr) (fun a : Int × List Rope × List Int × Slips => okRs a.1 a.2.1 ∧ isSt a.1 a.2.1 a.2.2.1 ∧ okSl a.1 a.2.2.2 ∧ okF a.1 (turned a.2.1) (neg a.2.2.1) (negS a.2.2.2)) (fun a => [Rg K a.1 a.2.1, L I a.2.2.1, L PII a.2.2.2]) (fun _ => []) (fun a y => Tp [At y.1, At y.2.1, At y.2.2]) (fun a y => [(y.1, oL I (neg (f_hs a.1 (turned a.2.1) (neg a.2.2.1) (negS a.2.2.2)))), (y.2.1, oD Op (f_pulls a.1 (turned a.2.1) (neg a.2.2.1) (negS a.2.2.2))), (y.2.2, oD (L I) (revS (m_stops a.1 (turned a.2.1) (negS a.2.2.2))))])
theorem ok_rise (W : Wd K mg) : Fn Pg w K mg base 9 "rise" (sp_rise K) [] := by
  obtain ⟨fd, F⟩ := W.says.def_ 34 (d := d_rise) rfl
  refine ⟨_, fd, ["rig", "stand", "lifts"], [], fn_ok F sc_rise (fun _ => rfl) (by decide) ?_, W.g 34 _ rfl, F.kp, FunD.bindsN F (fun _ _ _ _ _ _ us hl => match us, hl with | [_, _, _], _ => rfl), .nil⟩
  rintro cdv A outer s H E hr ⟨n, rs, stand, lifts⟩ hp
  try dsimp only at hp
  refine ⟨_, (pss_cons (ps_expr (pe_fn (ok_look_at_stand W) (hr.mono (by decide)) (by rfl) (pa_cons (pv 0) (pa_cons (pv 1) pa_nil))))
      (pss_cons (ps_expr (pe_fn (ok_look_at_slips W) (hr.mono (by decide)) (by rfl) (pa_cons (pv 0) (pa_cons (pv 2) pa_nil))))
      (pss_cons (ps_asg (pe_fn (ok_fall W) (hr.mono (by decide)) (by rfl) (pa_cons (pe_mt0 (ok_Rig_turned W) (hr.mono (by decide)) W.cRig (pv 0)) (pa_cons (pe_fn (ok_turned_over W) (hr.mono (by decide)) (by rfl) (pa_cons (pv 1) pa_nil)) (pa_cons (pe_fn (ok_turned_slips W) (hr.mono (by decide)) (by rfl) (pa_cons (pv 2) pa_nil)) pa_nil)))) (pg_tup rfl (pgs_cons (pg_name (i := 3) sc_rise.nd rfl (by first | exact Or.inl rfl | exact Or.inr rfl)) (pgs_cons (pg_name (i := 4) sc_rise.nd rfl (by first | exact Or.inl rfl | exact Or.inr rfl)) (pgs_cons (pg_name (i := 5) sc_rise.nd rfl (by first | exact Or.inl rfl | exact Or.inr rfl)) (pgs_nil))))))
      (pss_one (ps_ret (pe_tup (pa_cons (pe_fn (ok_turned_over W) (hr.mono (by decide)) (by rfl) (pa_cons (pv 3) pa_nil)) (pa_cons (pv 4) (pa_cons (pe_lock (pe_dc (own := [("climber", 6), ("chain", 7)]) (g := gTup K 2 (gCons (gName 6) (gCons (gName 7) (gNil)))) rfl sc_rise.nd (pi_items (pv 5)) (blkOk_by (own := [("climber", 6), ("chain", 7)]) (N := N_rise) (sc := defScope s_rise) (by decide +kernel)) (fun _ _ _ _ _ => pg_tup rfl (pgs_cons (pg_name (i := 6) sc_rise.nd rfl (by first | exact Or.inl rfl | exact Or.inr rfl)) (pgs_cons (pg_name (i := 7) sc_rise.nd rfl (by first | exact Or.inl rfl | exact Or.inr rfl)) (pgs_nil)))) (fun _ _ _ _ _ => pts_nil) (fun _ _ _ _ _ => (pv 6)) (fun _ _ _ _ _ => (pe_revLK (K := K) (pv 7))))) pa_nil))))))))), fun b Q sb k => ?_⟩
  try dsimp only
  try dsimp only at k
  obtain ⟨hok, hs1, hks, hF⟩ := hp
  have n8 : n ≤ 8 := hok.n8
  have l1 := hs1.len
  have hl := hks.len
  refine sq_drop (ev_call (n, rs, stand) (ea_cons (ev_var rfl) (ea_cons (ev_var rfl) ea_nil)) ⟨hok, hs1⟩) ?_
  refine sq_drop (ev_call (false, n, rs, lifts) (ea_cons (ev_var rfl) (ea_cons (ev_var rfl) ea_nil)) hks) ?_
  refine sq_asgTX (vs := [3, 4, 5]) (evx_call (R := []) (n, turned rs, neg stand, negS lifts) (ea_cons (ev_meth (n, rs) (ev_var rfl) (by decide +kernel) (by decide +kernel) ea_nil hok) (ea_cons (ev_unown (o := oL I (neg stand)) (evx_call (R := []) stand (ea_cons (ev_var rfl) ea_nil) (by show stand.length ≤ 1000; omega))) (ea_cons (ev_call (false, lifts) (ea_cons (ev_var rfl) ea_nil) hl) ea_nil))) hF) (fun y => tg_pps3 (tg_name) (tg_name) (tg_name)) fun y => ?_
  have hsn : ((m_stops n (turned rs) (negS lifts)).map (·.1)).Nodup := stops_nd hF.ks.nd
  have hsl : (m_stops n (turned rs) (negS lifts)).length < 100000 := by
    have h1 := stops_len (n := n) (rs := turned rs) (negS lifts)
    have h2 := hF.ks.len
    omega
  have hfl : (f_hs n (turned rs) (neg stand) (negS lifts)).length ≤ 1000 := by
    have h1 := hF.s1.len
    unfold f_hs m_fallen
    rw [List.length_map, rg_length]
    omega
  refine go_retX (evx_tup (eax_both (evx_call (R := [(y.1, oD Op (f_pulls n (turned rs) (neg stand) (negS lifts))), (y.2, oD (L I) (m_stops n (turned rs) (negS lifts)))]) (f_hs n (turned rs) (neg stand) (negS lifts)) (ea_cons (ev_var rfl) ea_nil) hfl) fun lh => eax_cons (ev_var rfl) (eax_last (EvX.pre (O1 := [(y.2, oD (L I) (m_stops n (turned rs) (negS lifts))), (lh, oL I (neg (f_hs n (turned rs) (neg stand) (negS lifts)))), (y.1, oD Op (f_pulls n (turned rs) (neg stand) (negS lifts)))]) ?_ (evx_lock fun b od vs lk => evx_dcA (L I) (fun z => z.1) (fun z => z.2.reverse) (fun z => [some (Rg K n rs), some (L I stand), some (L PII lifts), some (L I (f_hs n (turned rs) (neg stand) (negS lifts))), some (At y.1), some (At y.2), some (I z.1), some (L I z.2)]) (src_items lk (ev_var rfl)) (fun z _ => tg_pps (tg_name) (tg_name)) (fun z hz O => (ev_var rfl)) (fun z hz O => (ev_rev (ev_var rfl))) hsl hsn)))) (fun _ => (by decide : 3 ≤ 100000))) (fun z => (z.1, y.1, z.2)) (fun z x hx => ?_) (fun z hn => ?_) (fun _ => rfl) k
  · exact perm3 _ _ _
  · simp at hx ⊢
    rcases hx with h | h | h
    · exact .inr (.inr (.inl h))
    · exact .inr (.inr (.inr h))
    · exact .inr (.inl h)
  · simp at hn ⊢
    obtain ⟨a1, ⟨a2, a3⟩, a4⟩ := hn
    exact ⟨⟨a4, fun e => a2 e.symm⟩, fun e => a3 e.symm⟩

abbrev N_is_rise : List PySem.Str := ["rig", "stand", "lifts", "thing", "over", "heights", "pulls", "stops", "climber", "chain"]
theorem sc_is_rise : FnScope N_is_rise ["rig", "stand", "lifts", "thing"] (defScope s_is_rise) := ⟨rfl, rfl, rfl, by decide +kernel, rfl, by decide +kernel, by decide +kernel⟩
abbrev sp_is_rise (K : PySem.W.Frag) : Sp := Spx (β := Unit) (fun a : Addr × Addr × Addr × Bool × Int × List Rope × List Int × Slips × List Int × Pulls × Stops => okRs a.2.2.2.2.1 a.2.2.2.2.2.1 ∧ isSt a.2.2.2.2.1 a.2.2.2.2.2.1 a.2.2.2.2.2.2.1 ∧ okSl a.2.2.2.2.1 a.2.2.2.2.2.2.2.1 ∧ isSt a.2.2.2.2.1 a.2.2.2.2.2.1 a.2.2.2.2.2.2.2.2.1 ∧ (a.2.2.2.2.2.2.2.2.2.2.map (·.1)).Nodup ∧ okIs a.2.2.2.2.1 (turned a.2.2.2.2.2.1) (neg a.2.2.2.2.2.2.1) (negS a.2.2.2.2.2.2.2.1) (neg a.2.2.2.2.2.2.2.2.1) a.2.2.2.2.2.2.2.2.2.1 (revS a.2.2.2.2.2.2.2.2.2.2)) (fun a => [Rg K a.2.2.2.2.1 a.2.2.2.2.2.1, L I a.2.2.2.2.2.2.1, SL a.2.2.2.1 a.2.2.2.2.2.2.2.1, Tp [At a.1, At a.2.1, At a.2.2.1]]) (fun a => [(a.2.2.1, oD (L I) a.2.2.2.2.2.2.2.2.2.2), (a.2.1, oD Op a.2.2.2.2.2.2.2.2.2.1), (a.1, oL I a.2.2.2.2.2.2.2.2.1)]) (fun _ _ => Bo true) (fun a _ => [(a.2.2.1, oD (L I) a.2.2.2.2.2.2.2.2.2.2), (a.2.1, oD Op a.2.2.2.2.2.2.2.2.2.1), (a.1, oL I a.2.2.2.2.2.2.2.2.1)])
theorem ok_is_rise (W : Wd K mg) : Fn Pg w K mg base 10 "is_rise" (sp_is_rise K) [] := by
  obtain ⟨fd, F⟩ := W.says.def_ 35 (d := d_is_rise) rfl
  refine ⟨_, fd, ["rig", "stand", "lifts", "thing"], [], fn_ok F sc_is_rise (fun _ => rfl) (by decide) ?_, W.g 35 _ rfl, F.kp, FunD.bindsN F (fun _ _ _ _ _ _ us hl => match us, hl with | [_, _, _, _], _ => rfl), .nil⟩
  rintro cdv A outer s H E hr ⟨lh, dp, ds, c, n, rs, stand, lifts, heights, pu, st⟩ hp
  try dsimp only at hp
  refine ⟨_, (pss_cons (ps_expr (pe_fn (ok_look_at_stand W) (hr.mono (by decide)) (by rfl) (pa_cons (pv 0) (pa_cons (pv 1) pa_nil))))
      (pss_cons (ps_expr (pe_fn (ok_look_at_slips W) (hr.mono (by decide)) (by rfl) (pa_cons (pv 0) (pa_cons (pv 2) pa_nil))))
      (pss_cons (ps_if (PW.pt (pw_or (pt_not (pt_val (pe_callB (r := rIsi K) call_isi (by rfl) (W.z 59 _ rfl) (by decide +kernel) (pa_cons (pv 3) (pa_cons (pe_bltn (v := .ty "tuple") (by rfl) (W.z 64 _ rfl) (by decide +kernel) rfl) pa_nil))))) (pw_or (pt_cmpR op_ne (pe_callB (r := rLenQ K) call_len_seq (by rfl) (W.z 60 _ rfl) PySem.boot_len (pa_cons (pv 3) pa_nil)) (pe_int) (nomark _)) (pw_or1 (pt_not (pt_val (pe_fn (ok_is_stand W) (hr.mono (by decide)) (by rfl) (pa_cons (pv 0) (pa_cons (pe_ix (r := rIxT K) ix_tup (pv 3) (pe_int) (fun _ _ => rfl)) pa_nil))))))))) (pss_one (ps_ret (pe_bl))) pss_nil)
      (pss_cons (ps_asg (pv 3) (pg_tup rfl (pgs_cons (pg_name (i := 5) sc_is_rise.nd rfl (by first | exact Or.inl rfl | exact Or.inr rfl)) (pgs_cons (pg_name (i := 6) sc_is_rise.nd rfl (by first | exact Or.inl rfl | exact Or.inr rfl)) (pgs_cons (pg_name (i := 7) sc_is_rise.nd rfl (by first | exact Or.inl rfl | exact Or.inr rfl)) (pgs_nil))))))
      (pss_cons (ps_if (PW.pt (pw_or (pt_not (pt_val (pe_callB (r := rIsi K) call_isi (by rfl) (W.z 59 _ rfl) (by decide +kernel) (pa_cons (pv 7) (pa_cons (pe_bltn (v := .ty "dict") (by rfl) (W.z 65 _ rfl) (by decide +kernel) rfl) pa_nil))))) (pw_or1 (pt_not (pt_val (pe_callB (r := rAll K) (cr_all rfl) (by rfl) (W.z 61 _ rfl) (by decide +kernel) (pa_cons (pe_lock (pe_lc (own := [("chain", 9)]) rfl sc_is_rise.nd (pi_values (pv 7)) (blkOk_by (own := [("chain", 9)]) (N := N_is_rise) (sc := defScope s_is_rise) (by decide +kernel)) (fun _ _ _ _ _ => pg_name (i := 9) sc_is_rise.nd rfl (by first | exact Or.inl rfl | exact Or.inr rfl)) (fun _ _ _ _ _ => pts_nil) (fun _ _ _ _ _ => (pe_callB (r := rIsi K) call_isi (by rfl) (W.z 59 _ rfl) (by decide +kernel) (pa_cons (pv 9) (pa_cons (pe_bltn (v := .ty "list") (by rfl) (W.z 63 _ rfl) (by decide +kernel) rfl) pa_nil)))))) pa_nil))))))) (pss_one (ps_ret (pe_bl))) pss_nil)
      (pss_cons (ps_lock (ps_setDc (i := 4) (own := [("climber", 8), ("chain", 9)]) (g := gTup K 2 (gCons (gName 8) (gCons (gName 9) (gNil)))) rfl sc_is_rise.nd rfl rfl (sw_dict rfl rfl rfl (by decide +kernel)) (pi_items (pv 7)) (blkOk_by (own := [("climber", 8), ("chain", 9)]) (N := N_is_rise) (sc := defScope s_is_rise) (by decide +kernel)) (fun _ _ _ _ _ => pg_tup rfl (pgs_cons (pg_name (i := 8) sc_is_rise.nd rfl (by first | exact Or.inl rfl | exact Or.inr rfl)) (pgs_cons (pg_name (i := 9) sc_is_rise.nd rfl (by first | exact Or.inl rfl | exact Or.inr rfl)) (pgs_nil)))) (fun _ _ _ _ _ => pts_nil) (fun _ _ _ _ _ => (pv 8)) (fun _ _ _ _ _ => (pe_revLK (K := K) (pv 9)))))
      (pss_one (ps_ret (pe_fn (ok_is_fall W) (hr.mono (by decide)) (by rfl) (pa_cons (pe_mt0 (ok_Rig_turned W) (hr.mono (by decide)) W.cRig (pv 0)) (pa_cons (pe_fn (ok_turned_over W) (hr.mono (by decide)) (by rfl) (pa_cons (pv 1) pa_nil)) (pa_cons (pe_fn (ok_turned_slips W) (hr.mono (by decide)) (by rfl) (pa_cons (pv 2) pa_nil)) (pa_cons (pe_tup (pa_cons (pe_fn (ok_turned_over W) (hr.mono (by decide)) (by rfl) (pa_cons (pv 5) pa_nil)) (pa_cons (pv 6) (pa_cons (pv 4) pa_nil)))) pa_nil))))))))))))), fun b Q sb k => ?_⟩
  try dsimp only
  try dsimp only at k
  obtain ⟨hok, hs1, hks, hs2, hnd, hI⟩ := hp
  have n8 : n ≤ 8 := hok.n8
  have l1 := hs1.len
  have l2 := hs2.len
  have hl := hks.len
  have hstl : st.length < 100000 := by
    have := hI.len
    unfold revS at this
    rw [List.length_map] at this
    omega
  refine sq_drop (ev_call (n, rs, stand) (ea_cons (ev_var rfl) (ea_cons (ev_var rfl) ea_nil)) ⟨hok, hs1⟩) ?_
  refine sq_drop (ev_call (c, n, rs, lifts) (ea_cons (ev_var rfl) (ea_cons (ev_var rfl) ea_nil)) hks) ?_
  refine sq_no (et_or (et_not (et_B (ev_cb (ea_cons (ev_var rfl) (ea_cons (ev_ty) ea_nil)) (rc_isi (c := true) (fun _ _ _ => ty_tup) (by decide +kernel))))) fun _ => (et_or (et_test (ev_op (ev_cb (ea_cons (ev_var rfl) ea_nil) rc_lenT) (ev_int) rv_ne)) fun _ => (et_not (et_B (ev_callV (l := lh) (o := oL I heights) (n, rs, heights) (ea_cons (ev_var rfl) (ea_cons (ev_op (ev_var rfl) (ev_int) (rv_ixT rfl)) ea_nil)) ⟨hok, l2⟩ (by simp) ?_ flat_B))))) (by simp [hs2.broken]) ?_
  · intro B B' vs s ho hv
    obtain ⟨x, y, rfl, h1, h2⟩ := pps2 hv
    cases (show y = .ref lh from h2)
    exact .cons (HP.m _ s h1) (.cons ho .nil)
  refine sq_asgT (vs := [5, 6, 7]) (ev_var rfl) (tg_pps3 (tg_name) (tg_name) (tg_name)) ?_
  refine sq_no (et_or (et_not (et_B (ev_cb (ea_cons (ev_var rfl) (ea_cons (ev_ty) ea_nil)) (rc_isi (c := true) (fun _ _ _ => ty_dicO (List.mem_cons_self ..)) (by decide +kernel))))) fun _ => (et_not (et_B (ev_cb (ea_cons (ev_lock fun b od vs lk => ev_lcA Bo (fun z => true) (fun z => [some (Rg K n rs), some (L I stand), some (SL c lifts), some (Tp [At lh, At dp, At ds]), none, some (At lh), some (At dp), some (At ds), none, some (L I z)]) (src_values lk (ev_var rfl)) (fun z _ => tg_name) (fun z hz O => (ev_cb (ea_cons (ev_var rfl) (ea_cons (ev_ty) ea_nil)) (rc_isi (c := true) (fun _ _ _ => ty_lst) (by decide +kernel)))) (by rw [List.length_map]; exact hstl)) ea_nil) rc_all)))) (by simp) ?_
  refine sq_lockX (γ := Addr) (Gn := fun dv => [some (Rg K n rs), some (L I stand), some (SL c lifts), some (Tp [At lh, At dp, At ds]), some (At dv), some (At lh), some (At dp), some (At ds), none, none]) (On := fun dv => [(dv, oD (L I) (revS st)), (dp, oD Op pu), (lh, oL I heights)]) (fun dv => ?_) fun b1 od vs lk D1 hn => ?_
  case refine_2 =>
    refine go_asgX (evx_dcA (L I) (fun z => z.1) (fun z => z.2.reverse) (fun z => [some (Rg K n rs), some (L I stand), some (SL c lifts), some (Tp [At lh, At dp, At ds]), none, some (At lh), some (At dp), some (At ds), some (I z.1), some (L I z.2)]) (src_items lk (ev_var rfl)) (fun z _ => tg_pps (tg_name) (tg_name)) (fun z hz O => (ev_var rfl)) (fun z hz O => (ev_rev (ev_var rfl))) hstl hnd) ?_
    exact hn
  refine go_perm (O' := [(dv, oD (L I) (revS st)), (dp, oD Op pu), (ds, oD (L I) st), (lh, oL I heights)]) ((List.Perm.cons _ (List.Perm.swap _ _ _)).trans (List.Perm.swap _ _ _)) ?_
  refine go_retX (P := fun _ : Unit => Bo true) (evx_call (R := [(ds, oD (L I) st), (lh, oL I heights)]) (dp, dv, n, turned rs, neg stand, negS lifts, neg heights, pu, revS st) (ea_cons (ev_meth (n, rs) (ev_var rfl) (by decide +kernel) (by decide +kernel) ea_nil hok) (ea_cons (ev_unown (o := oL I (neg stand)) (evx_call (R := [(dv, oD (L I) (revS st)), (dp, oD Op pu), (ds, oD (L I) st), (lh, oL I heights)]) stand (ea_cons (ev_var rfl) ea_nil) (by show stand.length ≤ 1000; omega))) (ea_cons (ev_call (c, lifts) (ea_cons (ev_var rfl) ea_nil) hl) (ea_cons (ev_tup (ea_cons (ev_unown (o := oL I (neg heights)) (evx_callV (l := lh) (o := oL I heights) heights (ea_cons (ev_var rfl) ea_nil) (by show heights.length ≤ 1000; omega) (by simp) ?_ (fun _ => flat_At) (fun y x hx => by simp at hx; subst hx; exact flat_oI))) (ea_cons (ev_var rfl) (ea_cons (ev_var rfl) ea_nil)))) ea_nil)))) hI) (fun _ => ()) (fun _ x hx => ?_) (fun _ hn => ?_) (fun _ => rfl) k
  · intro B B' vs s ho hv
    obtain ⟨y, rfl, h2⟩ := pps1 hv
    cases (show y = .ref lh from h2)
    exact .cons ho .nil
  · simp at hx ⊢
    rcases hx with h | h | h
    · exact .inr (.inr (.inl h))
    · exact .inr (.inl h)
    · exact .inr (.inr (.inr h))
  · simp at hn ⊢
    obtain ⟨a1, ⟨a2, a3⟩, a4⟩ := hn
    exact ⟨⟨fun e => a2 e.symm, a4⟩, a3⟩

end
end Rb

set_option Elab.async false
set_option linter.all false
set_option maxRecDepth 100000
set_option maxHeartbeats 4000000
namespace Rb
open PySem PySem.Spec PyProof.Rows L2
section
variable {b : Bs} {G G' G1 : List (Option HP)} {O O1 O2 O' R : List Ow} {P P0 P1 P2 : HP} {tt : TT} {t u : TS} {D : Ends} {ta tb te td ty tk tv : TE} {K : PySem.W.Frag} {α β ζ : Type} {f : α → HP} {kvs : List (Int × α)} {xs : List α}
/-! ### an owned list, held while an expression looks at it -/
structure Hl (b' : Bs) (l : Addr) (o : OP) : Prop where
  ex : ∃ u, b'.H0 l = some u ∧ o.q b'.B0 u
theorem evx_held {l : Addr} {o : OP} {P : β → HP} {Oy : β → List Ow} (h : ∀ b', Hl b' l o → EvX b' te G R P Oy) : EvX b te G ((l, o) :: R) P (fun y => (l, o) :: Oy y) := fun σ B H S Q k => by
  obtain ⟨h1, h2, ws, h3, hp⟩ := S.ow _ (List.mem_cons_self ..)
  have nd := List.nodup_cons.mp S.nd
  let H0 : Hp := fun c => if c ∈ ad R then none else H c
  have key : ∀ c, c ∉ ad R → H0 c = H c := fun c hc => by
    show (if c ∈ ad R then none else H c) = H c
    rw [if_neg hc]
  have keyl : H0 l = some ws := by rw [key l nd.1, h3]
  have sub : ∀ (c : Addr) (o : HO), b.H0 c = some o → H0 c = some o := fun c o e => by
    rw [key c fun hm => ?_]
    · exact S.hh c o e
    · obtain ⟨x, hx, rfl⟩ := List.mem_map.mp hm
      rw [(S.ow x (List.mem_cons_of_mem _ hx)).1] at e
      cases e
  have S1 : Sta ⟨B, H0⟩ G R σ B H := by
    refine ⟨S.len, Same.refl _, S.bh, fun c o e => ?_, fun _ _ => rfl, S.sl, fun x hx => ?_, nd.2⟩
    · have e : (if c ∈ ad R then none else H c) = some o := e
      by_cases hm : c ∈ ad R
      · rw [if_pos hm] at e
        cases e
      · rw [if_neg hm] at e
        exact e
    · obtain ⟨g1, g2, w, g3, g4⟩ := S.ow x (List.mem_cons_of_mem _ hx)
      refine ⟨?_, g2, w, g3, g4⟩
      show (if x.1 ∈ ad R then none else H x.1) = none
      rw [if_pos (List.mem_map.mpr ⟨x, hx, rfl⟩)]
  refine h ⟨B, H0⟩ ⟨ws, keyl, hp⟩ σ B H S1 Q fun y v B' H' s S' hv => k y v B' H' s ?_ hv
  have hl' : H' l = some ws := S'.hh l _ keyl
  have hBl : B' l = none := by rw [S'.fz l (by show H0 l ≠ none; rw [keyl]; simp)]; exact h2
  refine ⟨S'.len, S.bb.trans S'.bb, S'.bh, fun c o e => S'.hh c o (sub c o e), fun c hc => ?_, S'.sl, fun x hx => ?_, ?_⟩
  · have : H0 c ≠ none := by
      cases e : b.H0 c with
      | none => exact absurd e hc
      | some o =>
        rw [sub c o e]
        simp
    rw [S'.fz c this]
    exact S.fz c hc
  · rcases List.mem_cons.mp hx with rfl | hx
    · exact ⟨h1, hBl, _, hl', o.m s hp⟩
    · obtain ⟨g1, g2, w, g3, g4⟩ := S'.ow x hx
      refine ⟨?_, g2, w, g3, g4⟩
      cases e : b.H0 x.1 with
      | none => rfl
      | some o =>
        have := sub _ _ e
        rw [show H0 x.1 = none from g1] at this
        cases this
  · refine List.nodup_cons.mpr ⟨fun hm => ?_, S'.nd⟩
    obtain ⟨x, hx, e⟩ := List.mem_map.mp hm
    have := (S'.ow x hx).1
    rw [e] at this
    rw [show H0 l = none from this] at keyl
    cases keyl
theorem ev_held {l : Addr} {o : OP} (h : ∀ b', Hl b' l o → Ev b' te G R P R) : Ev b te G ((l, o) :: R) P ((l, o) :: R) := fun σ B H S Q k =>
  evx_held (P := fun _ : Unit => P) (Oy := fun _ => R) (fun b' hl => evx_of (h b' hl)) σ B H S Q fun y v B' H' s S' q => k v B' H' s S' q
theorem src_held {l : Addr} {tl : TE} (hl : Hl b l (oL f xs)) (h : Ev b tl G O (At l) O1) : Src b (iList K tl) G O xs f O1 := fun σ B H S Q k => h σ B H S _ fun v B1 H1 s1 S1 hv => by
  cases (show v = .ref l from hv)
  obtain ⟨u0, e0, vs, eu, hp0⟩ := hl.ex
  subst eu
  have hp := paired_mono S1.bb hp0
  refine ⟨l, rfl, ⟨vs, SqL.of (S1.hh l _ e0)⟩, k _ B1 H1 s1 S1 ⟨fun i H2 hi s s' => ?_, fun H2 s s' => ?_, fun i z H2 x H3 hz s s' yl B2 sB sH => ?_⟩⟩
  · exact ⟨vs, vs[i]'(by rw [← hp.length]; exact hi), SqL.of (s' l _ e0), by simp [← hp.length, hi]⟩
  · exact ⟨vs, SqL.of (s' l _ e0), by rw [hp.length]; exact Nat.le_refl _⟩
  · obtain ⟨rfl, hx⟩ := yl
    obtain ⟨w, hw, hf⟩ := paired_get hp hz
    have := hx vs (SqL.of (s' l _ e0))
    rw [hw] at this
    cases this
    exact ⟨B2, Fr.refl sH, (f z).m sB hf⟩
theorem ev_heldM {l : Addr} {o : OP} (hm : O.Perm ((l, o) :: R)) (h : ∀ b', Hl b' l o → Ev b' te G R P R) : Ev b te G O P O := Ev.perm (Ev.pre hm.symm (ev_held h)) hm.symm
theorem ev_lockM {d : Addr} (hm : O.Perm ((d, oD f kvs) :: R)) (h : ∀ b' od vs, Lk b' d f kvs od vs → Ev b' te G R P R) : Ev b (tLockE te) G O P O := Ev.perm (Ev.pre hm.symm (ev_lock h)) hm.symm
theorem Lk.reb {b' : Bs} {d : Addr} {od : Obj} {vs : List (Key × V)} (l : Lk b d f kvs od vs) (r : Reb b b') : Lk b' d f kvs od vs := ⟨by rw [r.hh]; exact l.frz, pairedD_mono r.bb l.pd⟩
/-- a held dict's value -/
theorem ev_dgetH {d : Addr} {k : Int} {x : α} (hl : Hl b d (oD f kvs)) (h : Ev b td G O (At d) O1) (hk : Ev b ty G O1 (I k) O2) (e : dl kvs k = some x) : Ev b (tDGet td ty) G O (f x) O2 := fun σ B H S Q q =>
  h σ B H S _ fun v B1 H1 s1 S1 hv => hk σ B1 H1 S1 _ fun w B2 H2 s2 S2 hw => by
  cases (show v = .ref d from hv)
  cases (show w = .int k from hw)
  obtain ⟨u0, e0, vs, eu, hp0⟩ := hl.ex
  subst eu
  obtain ⟨z, hz, hf⟩ := dl_some (pairedD_mono S2.bb hp0) e
  exact ⟨d, z, rfl, hz ▸ DGet.k (k := Sum.inl k) (S2.hh d _ e0), q z B2 H2 (s1.trans s2) S2 hf⟩
/-! ### lists by columns -/
def col {α : Type} (n : Int) (g : Int → α) : List α := (rg 0 (n + 1)).map g
def tbl {α : Type} (n : Int) (g : Int → Int → α) : List (List α) := col n fun k => col n (g k)
theorem col_at {n k : Int} {g : Int → α} (h0 : 0 ≤ k) (h1 : k ≤ n) : atI (col n g) k = some (g k) := by
  have := atI_rg (lo := 0) (n := n + 1) g h0 (by omega)
  rw [Int.zero_add] at this
  exact this
theorem col_len {n : Int} (g : Int → α) : (col n g).length = (n + 1).toNat := by
  unfold col
  rw [List.length_map, rg_length]
  congr 1
  omega
theorem col_set {n k : Int} {g : Int → α} {x : α} (h0 : 0 ≤ k) (h1 : k ≤ n) : ∃ j, ixN (col n g).length k = some j ∧ (col n g).set j x = col n fun i => if i = k then x else g i := by
  obtain ⟨j, rfl⟩ := Int.eq_ofNat_of_zero_le h0
  have hl := col_len (n := n) g
  refine ⟨j, ?_, ?_⟩
  · unfold ixN
    simp
    omega
  · refine List.ext_getElem? fun i => ?_
    unfold col at hl ⊢
    rw [List.getElem?_set, List.getElem?_map, List.getElem?_map]
    by_cases hi : i < (rg 0 (n + 1)).length
    · have e : (rg 0 (n + 1))[i]? = some ((i : Int)) := by
        unfold rg at hi ⊢
        rw [List.length_map, List.length_range] at hi
        rw [List.getElem?_map, List.getElem?_range hi]
        simp
      rw [e]
      by_cases hij : j = i
      · subst hij
        rw [if_pos rfl, if_pos (by rw [List.length_map]; exact hi)]
        simp
      · rw [if_neg hij]
        have : ¬ (i : Int) = (j : Int) := fun e => hij (by omega)
        simp [this]
    · have hn : (rg 0 (n + 1))[i]? = none := List.getElem?_eq_none (by omega)
      rw [hn]
      by_cases hij : j = i
      · subst hij
        rw [if_pos rfl, if_neg (by rw [List.length_map]; exact hi)]
        rfl
      · rw [if_neg hij]
        rfl
theorem col_congr {n : Int} {g h : Int → α} (e : ∀ k, 0 ≤ k → k ≤ n → g k = h k) : col n g = col n h := by
  unfold col
  refine List.map_congr_left fun k hk => ?_
  have := mem_rg.mp hk
  exact e k this.1 (by omega)
theorem paired_app {α β : Type} {F : α → β → Prop} : ∀ {l : List α} {v : List β} {l' : List α} {v' : List β}, Paired F l v → Paired F l' v' → Paired F (l ++ l') (v ++ v')
  | _, _, _, _, .nil, h => h
  | _, _, _, _, .cons a c, h => .cons a (paired_app c h)
theorem paired_erase {α β : Type} {F : α → β → Prop} : ∀ {l : List α} {v : List β} (j : Nat), Paired F l v → Paired F (l.eraseIdx j) (v.eraseIdx j)
  | _, _, _, .nil => .nil
  | _, _, 0, .cons a c => c
  | _, _, j + 1, .cons a c => .cons a (paired_erase j c)
/-- xs * k, owned -/
theorem evx_rep {k : Int} (ha : Ev b ta G O (L f xs) O1) (hb : Ev b tb G O1 (I k) O2) (h0 : 0 ≤ k) (h1 : k ≤ 1000) (h2 : xs.length ≤ 10) : EvX b (tOp rRep ta tb) G O At (fun l => (l, oL f (List.replicate k.toNat xs).flatten) :: O2) := fun σ B H S Q q =>
  ha σ B H S _ fun v B1 H1 s1 S1 hv => hb σ B1 H1 S1 _ fun w B2 H2 s2 S2 hw => by
  obtain ⟨a, u, rfl, hu, ws, rfl, hp⟩ := (L f xs).m s2 hv
  cases (show w = .int k from hw)
  refine ⟨a, k, ws, rfl, rfl, S2.bh a _ hu, by omega, by omega, ?_, fun p hp0 => ?_⟩
  · rw [← hp.length]
    have : xs.length * k.toNat ≤ 10 * 1000 := Nat.mul_le_mul h2 (by omega)
    exact sz_le (by omega)
  · refine q p _ B2 _ (s1.trans s2) (S2.own hp0 ⟨_, rfl, ?_⟩) rfl
    generalize k.toNat = j
    induction j with
    | zero => exact .nil
    | succ j ih =>
      rw [List.replicate_succ, List.replicate_succ, List.flatten_cons, List.flatten_cons]
      exact paired_app hp ih
theorem rep_col {n : Int} {x : α} : (List.replicate (n + 1).toNat [x]).flatten = col n fun _ => x := by
  unfold col
  have e : (rg 0 (n + 1)).map (fun _ => x) = List.replicate (n + 1).toNat x := by
    rw [List.map_const', rg_length]
    congr 2
    omega
  rw [e]
  generalize (n + 1).toNat = j
  induction j with
  | zero => rfl
  | succ j ih =>
    rw [List.replicate_succ, List.flatten_cons, ih, List.replicate_succ]
    rfl
/-- xs.pop(i) of an owned list -/
theorem ev_popAt {l : Addr} {i : Int} {j : Nat} {x : α} (ha : Ev b ta G O (At l) O1) (ho : (l, oL f xs) ∈ O1) (he : Ev b te G O1 (I i) ((l, oL f xs) :: O2)) (hj : ixN xs.length i = some j) (hx : xs[j]? = some x) (h0 : -(2 ^ 63) ≤ i) (h1 : i < 2 ^ 63) :
    Ev b (tBM K "list" rPopAt ta (tCons te tNil)) G O (f x) ((l, oL f (xs.eraseIdx j)) :: O2) := fun σ B H S Q k => ha σ B H S _ fun v B1 H1 s1 S1 hv => by
  cases (show v = .ref l from hv)
  obtain ⟨_, _, u, hu, ws, rfl, _⟩ := S1.ow _ ho
  refine ⟨.inl ⟨rfl, _, SqL.of hu⟩, he σ B1 H1 S1 _ fun w B2 H2 s2 S2 hw => ?_⟩
  cases (show w = .int i from hw)
  obtain ⟨_, h2, u, hu, vs, rfl, hp⟩ := S2.ow _ (List.mem_cons_self ..)
  obtain ⟨y, hy, hf⟩ := paired_get hp hx
  refine ⟨l, vs, i, j, y, rfl, rfl, hu, h0, h1, (ixN_seq (by rw [← hp.length]; exact hj)).1, hy, k y B2 _ (s1.trans s2) (S2.put ⟨_, rfl, ?_⟩) hf⟩
  exact paired_erase j hp
theorem go_clear {l : Addr} (ha : Ev b ta G O (At l) ((l, oL f xs) :: O2)) (k : Nx b G ((l, oL f ([] : List α)) :: O2) D.nx) : Go b (tDrop (tBM0 K "list" rClear ta)) G O D := fun σ B H S => ha σ B H S _ fun v B1 H1 s1 S1 hv => by
  cases (show v = .ref l from hv)
  obtain ⟨_, _, u, hu, ws, rfl, _⟩ := S1.ow _ (List.mem_cons_self ..)
  exact ⟨.inl ⟨rfl, _, SqL.of hu⟩, l, ws, rfl, rfl, hu, k σ B1 _ (S1.put ⟨_, rfl, .nil⟩)⟩
theorem sq_clear {l : Addr} (ha : Ev b ta G O (At l) ((l, oL f xs) :: O2)) (k : Go b u G ((l, oL f ([] : List α)) :: O2) D) : Go b (tSeq (tDrop (tBM0 K "list" rClear ta)) u) G O D := go_clear (D := { D with nx := u D }) ha k
/-- a list display of things told one by one, one of them new -/
theorem evx_lstX {ta : TA} {Ps : β → List HP} {Oy : β → List Ow} (h : EvAX b ta G O Ps Oy) (hl : ∀ y, (Ps y).length ≤ 100000) : EvX b (tLst ta) G O (fun z : Addr × β => At z.1) (fun z => (z.1, oL (fun P : HP => P) (Ps z.2)) :: Oy z.2) := fun σ B H S Q k =>
  h σ B H S _ fun y vs B1 H1 s1 S1 hvs => by
  refine ⟨by rw [← hvs.length]; exact sz_le (hl y), fun p hp => ?_⟩
  exact k (p, y) _ B1 _ s1 (S1.own hp ⟨vs, rfl, hvs⟩) rfl
theorem rv_notBl {S : Hp → Hp → Prop} {c d : Bool} : RV S rNotB (Bo c) (Bo d) (Bo (!decide (c = d))) := fun x y B H s _ hx hy Q k => ⟨c, d, hx, hy, k _ B H (Fr.refl s) rfl⟩
/-- the script -/
def Sc (K : PySem.W.Frag) (ns : List Int) : HP := ⟨fun H v => ∃ a, v = .ref a ∧ SqL K H a (ns.map V.int), fun s ⟨a, e, h⟩ => ⟨a, e, by
  rcases h with h | h
  · rcases h with h | ⟨o, h⟩
    · exact .inl (.inl (s _ _ h))
    · exact .inl (.inr ⟨o, s _ _ h⟩)
  · exact .inr h⟩⟩
def cutS (ns : List Int) (k : Int) : List Int := (ns.drop (HT.sIx ns.length 0 none)).take (HT.sIx ns.length ns.length (some k) - HT.sIx ns.length 0 none)
theorem cut_ints (ns : List Int) (k : Int) : cutV (ns.map V.int) none (some k) = (cutS ns k).map V.int := by
  unfold cutV cutS
  rw [List.length_map, ← List.map_drop, ← List.map_take]
theorem ev_cutS {ns : List Int} {k : Int} (h : Ev b te G O (Sc K ns) O1) : Ev b (tSl (rSlL K) te tNoPart (tPart (tC (.int k)))) G O (L I (cutS ns k)) O1 := fun σ B H S Q q => h σ B H S _ fun v B1 H1 s1 S1 hv => by
  obtain ⟨a, rfl, hs⟩ := (Sc K ns).m S1.bh hv
  refine ⟨k, rfl, a, ns.map V.int, rfl, hs, fun p hp => ?_⟩
  rw [cut_ints]
  have fr := Fr.new (o := .lst ((cutS ns k).map V.int)) S1.bh hp
  exact q _ _ _ (s1.trans fr.bb) (S1.step fr) ⟨p, _, rfl, upd_same, _, rfl, Ip _⟩
/-- list(range(a, b)), owned -/
theorem evx_lstRg2 {i j : Int} (ha : Ev b ta G O (I i) O1) (hb : Ev b tb G O1 (I j) O2) (h0 : 0 ≤ i) (h1 : i ≤ 1000) (h2 : 0 ≤ j) (h3 : j ≤ 1000) : EvX b (tLstRg (tRg2 ta tb)) G O At (fun l => (l, oL I (rg i j)) :: O2) := fun σ B H S Q q =>
  ha σ B H S _ fun v B1 H1 s1 S1 hv => hb σ B1 H1 S1 _ fun w B2 H2 s2 S2 hw => by
  cases (show v = .int i from hv)
  cases (show w = .int j from hw)
  refine ⟨i, j, rfl, rfl, RgOk.of_le h0 (by omega) (by omega) h2, fun p hp => ?_⟩
  · refine q p _ B2 _ (s1.trans s2) (S2.own hp ⟨_, rfl, ?_⟩) rfl
    have e : rgV i j = (rg i j).map V.int := by
      unfold rgV rg
      rw [List.map_map]
      rfl
    rw [e]
    exact Ip _
end
end Rb

set_option Elab.async false
set_option linter.all false
set_option maxRecDepth 100000
set_option maxHeartbeats 4000000
/-! What the law's own defs compute, in plain Lean. -/
namespace Rb
open PySem PySem.Spec PyProof.Rows L2
abbrev DF := Int → Int → Option Int
def val (b : Best) (k : Int) : Option Int := (dl b k).map (·.1)
def Df0 (n : Int) (rs : List Rope) : DF := fun u k => val (it rs n.toNat (one k)) u
def iget (l : List Int) (k : Int) : Int := l.getD k.toNat 0
theorem iget_at {l : List Int} {k : Int} (h0 : 0 ≤ k) (h1 : k < l.length) : atI l k = some (iget l k) := by
  obtain ⟨j, rfl⟩ := Int.eq_ofNat_of_zero_le h0
  have hj : j < l.length := by omega
  have : ixN l.length (j : Int) = some j := by
    unfold ixN
    simp
    omega
  unfold atI iget
  rw [this]
  simp [hj]
theorem hi_iget (hs : List Int) (k : Int) : hi hs k = iget (0 :: hs) k := rfl
def lv (Df : DF) (z : Int × Int) : Int := match Df 0 z.1 with
  | none => z.2
  | some x => if 0 - x > z.2 then 0 - x else z.2
def lims (Df : DF) (sl : Slips) : Slips := sl.map fun z => (z.1, lv Df z)
def lcap (hg : List Int) (lf : Int → Option Int) (k : Int) : Int := match lf k with
  | none => iget hg k
  | some e => if e < iget hg k then e else iget hg k
def lsome (n : Int) (Df : DF) (hg : List Int) (lf : Int → Option Int) (c : Int) : List Int := ((rg 0 (n + 1)).filter fun a => !(Df c a).isNone).map fun a => lcap hg lf a + (Df c a).getD 0
def lfall (n : Int) (Df : DF) (hg : List Int) (lf : Int → Option Int) (c : Int) : Int := imin (lsome n Df hg lf c)
def ldown (n : Int) (hg th : List Int) : List Int := (rg 1 (n + 1)).filter fun c => decide (iget th c < iget hg c)
def due1 (Df : DF) (z : Int × Int) : Bool := !(Df 0 z.1).isNone && decide (z.2 < 0 - (Df 0 z.1).getD 0)
def due (Df : DF) (sl : Slips) : List Int := (sl.filter (due1 Df)).map (·.1)
def okLPull (rs : List Rope) (hg th : List Int) (lf : Int → Option Int) (c : Int) : Option Int → Prop
  | none => lf c = some (iget th c)
  | some k => 0 ≤ k ∧ k < rs.length ∧ (rp rs k).1 = c ∧ iget th c - iget th (rp rs k).2.1 = (rp rs k).2.2 ∧ iget th (rp rs k).2.1 < iget hg (rp rs k).2.1
structure okLP (n : Int) (rs : List Rope) (hg th : List Int) (lf : Int → Option Int) (pu : Pulls) : Prop where
  keys : pu.map (·.1) = ldown n hg th
  ok : ∀ z ∈ pu, okLPull rs hg th lf z.1 z.2
  stay : ∀ c ∈ ldown n hg th, wk rs pu c ∈ ldown n hg th
  fin : ∀ c ∈ ldown n hg th, dl pu (wkn rs pu (ldown n hg th).length c) = some none
structure okLS (rs : List Rope) (Df : DF) (sl : Slips) (st : Stops) : Prop where
  keys : st.map (·.1) = due Df sl
  ok : ∀ z ∈ st, okC rs z.2 ∧ ld rs z.2 0 z.1 = true ∧ Df 0 z.1 = some (sm rs z.2)
structure okLF (n : Int) (rs : List Rope) (Df : DF) (hg : List Int) (sl : Slips) (hs : List Int) (pu : Pulls) (st : Stops) : Prop where
  ok : okRs n rs
  len : (hg.length : Int) = n + 1
  hl : (hs.length : Int) = n
  lets : ∀ r ∈ rs, hi hs r.1 - hi hs r.2.1 ≤ r.2.2
  self : ∀ c, 0 ≤ c → c ≤ n → (Df c c).isSome = true
  ks : okSl n sl
  l8 : sl.length ≤ 8
  eq : ∀ c, 1 ≤ c → c ≤ n → hi hs c = lfall n Df hg (dl (lims Df sl)) c
  st : okLS rs Df sl st
  pu : okLP n rs hg (0 :: hs) (dl (lims Df sl)) pu
theorem dl_snoc {α : Type} (l : List (Int × α)) (p : Int × α) (j : Int) : dl (l ++ [p]) j = match dl l j with
    | some x => some x
    | none => if p.1 = j then some p.2 else none := by
  unfold dl
  rw [List.find?_append]
  cases e : l.find? fun kv => decide (kv.1 = j) with
  | some q => rfl
  | none =>
    by_cases h : p.1 = j
    · simp [List.find?_cons, h]
    · simp [List.find?_cons, h]
theorem lims_take {Df : DF} {sl : Slips} (hn : (sl.map (·.1)).Nodup) {i : Nat} {z : Int × Int} (hz : sl[i]? = some z) (k : Int) : dl (lims Df (sl.take (i + 1))) k = if k = z.1 then some (lv Df z) else dl (lims Df (sl.take i)) k := by
  have e : lims Df (sl.take (i + 1)) = lims Df (sl.take i) ++ [(z.1, lv Df z)] := by
    unfold lims
    rw [List.take_succ, hz]
    simp
  rw [e, dl_snoc]
  by_cases h : k = z.1
  · subst h
    rw [if_pos rfl]
    have : dl (lims Df (sl.take i)) z.1 = none := by
      cases q : dl (lims Df (sl.take i)) z.1 with
      | none => rfl
      | some x =>
        have := keys_dl (kvs := lims Df (sl.take i)) (k := z.1) (by rw [q]; rfl)
        obtain ⟨p, hp, e2⟩ := List.mem_map.mp this
        obtain ⟨y, hy, e3⟩ := List.mem_map.mp hp
        rw [← e3] at e2
        exact absurd e2 (nd_take hn hz y hy)
    rw [this]
    simp
  · rw [if_neg h]
    cases dl (lims Df (sl.take i)) k with
    | some x => rfl
    | none =>
      have : ¬ z.1 = k := fun e => h e.symm
      simp [this]
theorem kn_eq {rs : List Rope} {c : List Int} {i : Int} {r : List Int} (h : c = i :: r) : kn rs c = (rp rs i).1 :: c.map fun j => (rp rs j).2.1 := by
  subst h
  rfl
theorem chd_at : ∀ {l : List Rope} {i : Nat} {a c : Rope}, chd l = true → l[i]? = some a → l[i + 1]? = some c → a.2.1 = c.1
  | [], i, a, c, h, h1, h2 => by simp at h1
  | [x], i, a, c, h, h1, h2 => by simp at h2
  | x :: y :: l, 0, a, c, h, h1, h2 => by
    simp at h1 h2
    subst h1
    subst h2
    simp [chd] at h
    exact h.1
  | x :: y :: l, i + 1, a, c, h, h1, h2 => by
    simp [chd] at h
    exact chd_at (l := y :: l) (i := i) (by simpa [chd] using h.2) (by simpa using h1) (by simpa using h2)
theorem okLP.at {n : Int} {rs : List Rope} {hg th : List Int} {lf : Int → Option Int} {pu : Pulls} (h : okLP n rs hg th lf pu) {c : Int} (hc : c ∈ ldown n hg th) : ∃ x, dl pu c = some x ∧ okLPull rs hg th lf c x := by
  obtain ⟨x, hx⟩ := Option.isSome_iff_exists.mp (dl_keys (kvs := pu) (k := c) (by rw [h.keys]; exact hc))
  exact ⟨x, hx, h.ok _ (dl_mem hx)⟩
theorem okLP.steps {n : Int} {rs : List Rope} {hg th : List Int} {lf : Int → Option Int} {pu : Pulls} (h : okLP n rs hg th lf pu) {c : Int} (hc : c ∈ ldown n hg th) : ∀ t, wkn rs pu t c ∈ ldown n hg th
  | 0 => hc
  | t + 1 => h.stay _ (h.steps hc t)
theorem ldown_rng {n : Int} {hg th : List Int} {c : Int} (h : c ∈ ldown n hg th) : 1 ≤ c ∧ c ≤ n := by
  have h1 := mem_rg.mp (List.mem_filter.mp h).1
  omega
theorem ldown_len {n : Int} (hg th : List Int) : (ldown n hg th).length ≤ n.toNat := by
  have h1 := List.length_filter_le (fun c => decide (iget th c < iget hg c)) (rg 1 (n + 1))
  have h2 := rg_length 1 (n + 1)
  unfold ldown
  omega
theorem ldown_ord (n : Int) (hg th : List Int) : (ldown n hg th).Pairwise (· ≤ ·) := (rg_ord 1 (n + 1)).filter _
theorem kn_last {rs : List Rope} {c : List Int} {i : Int} {r : List Int} (h : c = i :: r) (hc : chd (c.map (rp rs)) = true) {j : Nat} {z : Int} (hz : c[j]? = some z) : ((rp rs i).1 :: (c.take j).map fun q => (rp rs q).2.1).getLastD 0 = (rp rs z).1 := by
  cases j with
  | zero =>
    subst h
    simp at hz
    subst hz
    rfl
  | succ j =>
    have hj : j < c.length := by
      have := (List.getElem?_eq_some_iff.mp hz).1
      omega
    have h1 : c[j]? = some c[j] := by simp [hj]
    have h2 := chd_at hc (i := j) (a := rp rs c[j]) (c := rp rs z) (by rw [List.getElem?_map, h1]; rfl) (by rw [List.getElem?_map, hz]; rfl)
    rw [← h2, List.take_succ, h1, List.map_append]
    show ((rp rs i).1 :: (((c.take j).map fun q => (rp rs q).2.1) ++ [(rp rs c[j]).2.1])).getLastD 0 = _
    rw [← List.cons_append, List.getLastD_concat]
theorem val_some {b : Best} {k : Int} {q : Int × List Int} (h : dl b k = some q) : val b k = some q.1 := by
  unfold val
  rw [h]
  rfl
theorem val_none {b : Best} {k : Int} (h : dl b k = none) : val b k = none := by
  unfold val
  rw [h]
  rfl
theorem val_dp {b : Best} {u : Int} {x : Int × List Int} (k : Int) : val (dp b u x) k = if k = u then some x.1 else val b k := by
  unfold val
  rw [dl_dp]
  split <;> rfl
theorem val_one (g k : Int) : val (one g) k = if k = g then some 0 else none := by
  unfold val one dl
  by_cases h : k = g
  · subst h
    simp
  · have : ¬ g = k := fun e => h e.symm
    simp [List.find?_cons, this, h]
theorem tbl_len {α : Type} {n : Int} (g : Int → Int → α) : (tbl n g).length = (n + 1).toNat := col_len _
theorem down_eq {n : Int} {H hs : List Int} : ldown n (0 :: H) (0 :: hs) = m_down n H hs := rfl
theorem all_true {α : Type} (l : List α) : ((l.map fun _ => true).all id) = true := by simp [List.all_eq_true]
theorem getD_at {α : Type} {l : List α} {k : Int} (d : α) (h0 : 0 ≤ k) (h1 : k < l.length) : atI l k = some (l.getD k.toNat d) := by
  obtain ⟨j, rfl⟩ := Int.eq_ofNat_of_zero_le h0
  have hj : j < l.length := by omega
  have : ixN l.length (j : Int) = some j := by
    unfold ixN
    simp
    omega
  unfold atI
  rw [this]
  simp [hj]
theorem col_getD {α : Type} {n k : Int} {g : Int → α} (d : α) (h0 : 0 ≤ k) (h1 : k ≤ n) : (col n g).getD k.toNat d = g k := by
  have h2 := getD_at (l := col n g) d h0 (by rw [col_len]; omega)
  rw [col_at h0 h1] at h2
  exact (Option.some.inj h2).symm
theorem dl_at {α : Type} : ∀ {kvs : List (Int × α)}, (kvs.map (·.1)).Nodup → ∀ p ∈ kvs, dl kvs p.1 = some p.2
  | [], _, p, h => by cases h
  | q :: r, hn, p, h => by
    have h2 := List.nodup_cons.mp (by simpa using hn : (q.1 :: r.map (·.1)).Nodup)
    rcases List.mem_cons.mp h with rfl | h
    · simp [dl, List.find?_cons]
    · have ne : ¬ q.1 = p.1 := fun e => h2.1 (List.mem_map.mpr ⟨p, h, e.symm⟩)
      have := dl_at h2.2 p h
      unfold dl at this ⊢
      rw [List.find?_cons]
      simp [ne, this]
theorem drop_col {n : Int} {hs : List Int} {g : Int → Int} (hl : (hs.length : Int) = n) (h : ∀ c, 1 ≤ c → c ≤ n → hi hs c = g c) : hs = (col n g).drop 1 := by
  refine List.ext_getElem? fun i => ?_
  rw [List.getElem?_drop]
  unfold col rg
  rw [List.getElem?_map, List.getElem?_map]
  by_cases hi' : i < hs.length
  · have e : (List.range (n + 1 - 0).toNat)[1 + i]? = some (1 + i) := List.getElem?_range (by omega)
    rw [e]
    have h2 := h (1 + (i : Int)) (by omega) (by omega)
    unfold hi at h2
    have e3 : (1 + (i : Int)).toNat = i + 1 := by omega
    rw [e3] at h2
    simp only [List.getD_eq_getElem?_getD, List.getElem?_cons_succ] at h2
    rw [List.getElem?_eq_getElem hi'] at h2 ⊢
    simp at h2
    simp [h2]
  · rw [List.getElem?_eq_none (by omega)]
    have e : (List.range (n + 1 - 0).toNat)[1 + i]? = none := List.getElem?_eq_none (by rw [List.length_range]; omega)
    rw [e]
    rfl
theorem revS_take {st : Stops} (hn : (st.map (·.1)).Nodup) {i : Nat} {z : Int × List Int} (hz : st[i]? = some z) : revS (st.take (i + 1)) = dp (revS (st.take i)) z.1 z.2.reverse := by
  rw [dp_new fun hm => ?_]
  · unfold revS
    rw [List.take_succ, hz]
    simp
  · obtain ⟨p, hp, e⟩ := List.mem_map.mp hm
    obtain ⟨y, hy, e2⟩ := List.mem_map.mp hp
    rw [← e2] at e
    exact nd_take hn hz y hy e
theorem perm4 {α : Type} (x y z w : α) : [y, z, x, w].Perm [x, y, z, w] := (perm3 y z x).symm.append_right [w]
theorem perm4' {α : Type} (x y z w : α) : [x, y, z, w].Perm [w, x, y, z] := List.perm_append_comm (l₁ := [x, y, z]) (l₂ := [w])
end Rb

set_option Elab.async false
set_option linter.all false
set_option maxRecDepth 100000
set_option maxHeartbeats 4000000
namespace Rb
open PySem PySem.Spec PyProof.Rows L2
section
variable {Pg : Program} {w : World} {K : PySem.W.Frag} {mg : Str → Option Value} {base : Heap}
abbrev N_law_whole : List PySem.Str := ["_law_thing"]
theorem sc_law_whole : FnScope N_law_whole ["_law_thing"] (defScope s__law_whole) := ⟨rfl, rfl, rfl, by decide +kernel, rfl, by decide +kernel, by decide +kernel⟩
abbrev sp_law_whole (K : PySem.W.Frag) : Sp := SpP (fun a : Int => True) (fun a => [I a]) (fun a => Bo true)
theorem ok_law_whole (W : Wd K mg) : Fn Pg w K mg base 1 "_law_whole" (sp_law_whole K) [] := by
  obtain ⟨fd, F⟩ := W.says.def_ 41 (d := d__law_whole) rfl
  refine ⟨_, fd, ["_law_thing"], [], fn_ok F sc_law_whole (fun _ => rfl) (by decide) ?_, W.g 41 _ rfl, F.kp, FunD.bindsN F (fun _ _ _ _ _ _ us hl => match us, hl with | [_], _ => rfl), .nil⟩
  rintro cdv A outer s H E hr x hp
  try dsimp only at hp
  refine ⟨_, (pss_one (ps_ret ((pe_and (pe_callB (r := rIsi K) call_isi (by rfl) (W.z 59 _ rfl) (by decide +kernel) (pa_cons (pv 0) (pa_cons (pe_bltn (v := .ty "int") (by rfl) (W.z 66 _ rfl) (by decide +kernel) rfl) pa_nil))) (pe_one (pe_not (pe_callB (r := rIsi K) call_isi (by rfl) (W.z 59 _ rfl) (by decide +kernel) (pa_cons (pv 0) (pa_cons (pe_bltn (v := .ty "bool") (by rfl) (W.z 67 _ rfl) (by decide +kernel) rfl) pa_nil))))))))), fun b Q sb k => ?_⟩
  try dsimp only
  try dsimp only at k
  exact goR k.fin ((ev_andV (ev_cb (ea_cons (ev_var rfl) (ea_cons (ev_ty) ea_nil)) (rc_isi (c := true) (fun _ _ _ => ty_int) (by decide +kernel))) fun _ => (ev_notV (ev_cb (ea_cons (ev_var rfl) (ea_cons (ev_ty) ea_nil)) (rc_isi (c := false) (fun _ _ _ => ty_int) (by decide +kernel)))))) rfl

abbrev N_law_lets : List PySem.Str := ["_law_ropes_here", "_law_high", "_law_rope"]
theorem sc_law_lets : FnScope N_law_lets ["_law_ropes_here", "_law_high"] (defScope s__law_lets) := ⟨rfl, rfl, rfl, by decide +kernel, rfl, by decide +kernel, by decide +kernel⟩
abbrev sp_law_lets (K : PySem.W.Frag) : Sp := SpP (fun a : Int × List Rope × List Int => (∀ r ∈ a.2.1, okR a.1 r ∧ iget a.2.2 r.1 - iget a.2.2 r.2.1 ≤ r.2.2) ∧ a.2.1.length ≤ 60 ∧ (a.2.2.length : Int) = a.1 + 1) (fun a => [L Ro a.2.1, L I a.2.2]) (fun a => Bo true)
theorem ok_law_lets (W : Wd K mg) : Fn Pg w K mg base 1 "_law_lets" (sp_law_lets K) [] := by
  obtain ⟨fd, F⟩ := W.says.def_ 42 (d := d__law_lets) rfl
  refine ⟨_, fd, ["_law_ropes_here", "_law_high"], [], fn_ok F sc_law_lets (fun _ => rfl) (by decide) ?_, W.g 42 _ rfl, F.kp, FunD.bindsN F (fun _ _ _ _ _ _ us hl => match us, hl with | [_, _], _ => rfl), .nil⟩
  rintro cdv A outer s H E hr ⟨n, rs, hg⟩ hp
  try dsimp only at hp
  refine ⟨_, (pss_one (ps_ret (pe_callB (r := rAll K) (cr_all rfl) (by rfl) (W.z 61 _ rfl) (by decide +kernel) (pa_cons (pe_lc (own := [("_law_rope", 2)]) rfl sc_law_lets.nd (pi_listK (K := K) (pv 0)) (blkOk_by (own := [("_law_rope", 2)]) (N := N_law_lets) (sc := defScope s__law_lets) (by decide +kernel)) (fun _ _ _ _ _ => pg_name (i := 2) sc_law_lets.nd rfl (by first | exact Or.inl rfl | exact Or.inr rfl)) (fun _ _ _ _ _ => pts_nil) (fun _ _ _ _ _ => (pe_cmpR op_le (pe_op op_sub (pe_ix (r := rIxL K) ix_list (pv 1) (pe_ix (r := rIxT K) ix_tup (pv 2) (pe_int) (fun _ _ => rfl)) (fun _ _ => rfl)) (pe_ix (r := rIxL K) ix_list (pv 1) (pe_ix (r := rIxT K) ix_tup (pv 2) (pe_int) (fun _ _ => rfl)) (fun _ _ => rfl))) (pe_ix (r := rIxT K) ix_tup (pv 2) (pe_int) (fun _ _ => rfl)) (nomark _)))) pa_nil)))), fun b Q sb k => ?_⟩
  try dsimp only
  try dsimp only at k
  obtain ⟨hr1, hl, hg1⟩ := hp
  exact goR k.fin (ev_cb (ea_cons (ev_lcA Bo (fun z => true) (fun z => [some (L Ro rs), some (L I hg), some (Ro z)]) (src_list (ev_var rfl)) (fun z _ => tg_name) (fun z hz O => Ev.cast (ev_op (ev_op (ev_op (ev_var rfl) (ev_op (ev_var rfl) (ev_int) (rv_ixT rfl)) (rv_ixL (iget_at (hr1 z hz).1.1 (by have := (hr1 z hz).1.2.1; omega)))) (ev_op (ev_var rfl) (ev_op (ev_var rfl) (ev_int) (rv_ixT rfl)) (rv_ixL (iget_at (hr1 z hz).1.2.2.1 (by have := (hr1 z hz).1.2.2.2.1; omega)))) rv_sub) (ev_op (ev_var rfl) (ev_int) (rv_ixT rfl)) rv_le) (congrArg Bo (decide_eq_true (hr1 z hz).2))) (by omega)) ea_nil) rc_all) (congrArg Bo (all_true _))

abbrev N_law_stand : List PySem.Str := ["_law_ropes_here", "_law_many", "_law_thing", "_law_one"]
theorem sc_law_stand : FnScope N_law_stand ["_law_ropes_here", "_law_many", "_law_thing"] (defScope s__law_stand) := ⟨rfl, rfl, rfl, by decide +kernel, rfl, by decide +kernel, by decide +kernel⟩
abbrev sp_law_stand (K : PySem.W.Frag) : Sp := SpP (fun a : Int × List Rope × List Int => okRs a.1 a.2.1 ∧ (∀ r ∈ a.2.1, hi a.2.2 r.1 - hi a.2.2 r.2.1 ≤ r.2.2) ∧ (a.2.2.length : Int) = a.1) (fun a => [L Ro a.2.1, I a.1, L I a.2.2]) (fun a => Bo true)
theorem ok_law_stand (W : Wd K mg) : Fn Pg w K mg base 2 "_law_stand" (sp_law_stand K) [] := by
  obtain ⟨fd, F⟩ := W.says.def_ 43 (d := d__law_stand) rfl
  refine ⟨_, fd, ["_law_ropes_here", "_law_many", "_law_thing"], [], fn_ok F sc_law_stand (fun _ => rfl) (by decide) ?_, W.g 43 _ rfl, F.kp, FunD.bindsN F (fun _ _ _ _ _ _ us hl => match us, hl with | [_, _, _], _ => rfl), .nil⟩
  rintro cdv A outer s H E hr ⟨n, rs, hs⟩ hp
  try dsimp only at hp
  refine ⟨_, (pss_cons (ps_if (PW.pt (pw_or (pt_not (pt_val (pe_callB (r := rIsi K) call_isi (by rfl) (W.z 59 _ rfl) (by decide +kernel) (pa_cons (pv 2) (pa_cons (pe_bltn (v := .ty "list") (by rfl) (W.z 63 _ rfl) (by decide +kernel) rfl) pa_nil))))) (pw_or (pt_cmpR op_ne (pe_callB (r := rLenQ K) call_len_seq (by rfl) (W.z 60 _ rfl) PySem.boot_len (pa_cons (pv 2) pa_nil)) (pv 1) (nomark _)) (pw_or1 (pt_not (pt_val (pe_callB (r := rAll K) (cr_all rfl) (by rfl) (W.z 61 _ rfl) (by decide +kernel) (pa_cons (pe_lc (own := [("_law_one", 3)]) rfl sc_law_stand.nd (pi_listK (K := K) (pv 2)) (blkOk_by (own := [("_law_one", 3)]) (N := N_law_stand) (sc := defScope s__law_stand) (by decide +kernel)) (fun _ _ _ _ _ => pg_name (i := 3) sc_law_stand.nd rfl (by first | exact Or.inl rfl | exact Or.inr rfl)) (fun _ _ _ _ _ => pts_nil) (fun _ _ _ _ _ => (pe_fn (ok_law_whole W) (hr.mono (by decide)) (by rfl) (pa_cons (pv 3) pa_nil)))) pa_nil)))))))) (pss_one (ps_ret (pe_bl))) pss_nil)
      (pss_one (ps_ret (pe_fn (ok_law_lets W) (hr.mono (by decide)) (by rfl) (pa_cons (pv 0) (pa_cons (pe_op op_cat (pe_lst (pa_cons (pe_int) pa_nil)) (pv 2)) pa_nil)))))), fun b Q sb k => ?_⟩
  try dsimp only
  try dsimp only at k
  obtain ⟨hok, hlt, hl⟩ := hp
  have n8 := hok.n8
  refine sq_no (et_or (et_not (et_B (ev_cb (ea_cons (ev_var rfl) (ea_cons (ev_ty) ea_nil)) (rc_isi (c := true) (fun _ _ _ => ty_lst) (by decide +kernel))))) fun _ => (et_or (et_test (ev_op (ev_cb (ea_cons (ev_var rfl) ea_nil) rc_lenL) (ev_var rfl) rv_ne)) fun _ => (et_not (et_B (ev_cb (ea_cons (ev_lcA Bo (fun z => true) (fun z => [some (L Ro rs), some (I n), some (L I hs), some (I z)]) (src_list (ev_var rfl)) (fun z _ => tg_name) (fun z hz O => (ev_call z (ea_cons (ev_var rfl) ea_nil) trivial)) (by omega)) ea_nil) rc_all))))) (by simp [hl]) ?_
  exact goR k.fin (ev_call (n, rs, 0 :: hs) (ea_cons (ev_var rfl) (ea_cons (ev_op (ev_lst I [_] (ea_cons (ev_int) ea_nil)) (ev_var rfl) (rv_cat (by simp; omega))) ea_nil)) ⟨fun r hr => ⟨hok.all r hr, hlt r hr⟩, hok.len, by simp; omega⟩) rfl

abbrev N_law_knots : List PySem.Str := ["_law_ropes_here", "_law_thing", "_law_knots_here", "_law_number_here"]
theorem sc_law_knots : FnScope N_law_knots ["_law_ropes_here", "_law_thing"] (defScope s__law_knots) := ⟨rfl, rfl, rfl, by decide +kernel, rfl, by decide +kernel, by decide +kernel⟩
abbrev sp_law_knots (K : PySem.W.Frag) : Sp := SpP (fun a : List Rope × List Int => okC a.1 a.2 ∧ a.1.length ≤ 60) (fun a => [L Ro a.1, L I a.2]) (fun a => L I (kn a.1 a.2))
theorem ok_law_knots (W : Wd K mg) : Fn Pg w K mg base 2 "_law_knots" (sp_law_knots K) [] := by
  obtain ⟨fd, F⟩ := W.says.def_ 44 (d := d__law_knots) rfl
  refine ⟨_, fd, ["_law_ropes_here", "_law_thing"], [], fn_ok F sc_law_knots (fun _ => rfl) (by decide) ?_, W.g 44 _ rfl, F.kp, FunD.bindsN F (fun _ _ _ _ _ _ us hl => match us, hl with | [_, _], _ => rfl), .nil⟩
  rintro cdv A outer s H E hr ⟨rs, c⟩ hp
  try dsimp only at hp
  have hu64 : (cxOf CX0 Pg w K mg base N_law_knots "_law_knots" (defScope s__law_knots) (He.fAd K d__law_knots.at_) cdv A outer s H E).nox.A.units + 64 < cLine := hu64_of hr
  refine ⟨_, (pss_cons (ps_if (PW.pt (pw_or (pt_not (pt_val (pe_callB (r := rIsi K) call_isi (by rfl) (W.z 59 _ rfl) (by decide +kernel) (pa_cons (pv 1) (pa_cons (pe_bltn (v := .ty "list") (by rfl) (W.z 63 _ rfl) (by decide +kernel) rfl) pa_nil))))) (pw_or1 (pt_cmpR (r := rEqD K) (op_eqD hu64) (pv 1) (pe_lst pa_nil) (nomark _))))) (pss_one (ps_ret (pe_lst pa_nil))) pss_nil)
      (pss_cons (ps_if (pt_not (pt_val (pe_callB (r := rAll K) (cr_all rfl) (by rfl) (W.z 61 _ rfl) (by decide +kernel) (pa_cons (pe_lc (own := [("_law_number_here", 3)]) rfl sc_law_knots.nd (pi_listK (K := K) (pv 1)) (blkOk_by (own := [("_law_number_here", 3)]) (N := N_law_knots) (sc := defScope s__law_knots) (by decide +kernel)) (fun _ _ _ _ _ => pg_name (i := 3) sc_law_knots.nd rfl (by first | exact Or.inl rfl | exact Or.inr rfl)) (fun _ _ _ _ _ => pts_nil) (fun _ _ _ _ _ => ((pe_and (pe_fn (ok_law_whole W) (hr.mono (by decide)) (by rfl) (pa_cons (pv 3) pa_nil)) (pe_one (pe_chain op_le op_lt (pe_int) (pv 3) (pe_callB (r := rLenQ K) call_len_seq (by rfl) (W.z 60 _ rfl) PySem.boot_len (pa_cons (pv 0) pa_nil)))))))) pa_nil)))) (pss_one (ps_ret (pe_lst pa_nil))) pss_nil)
      (pss_cons (ps_set (i := 2) sc_law_knots.nd rfl (by first | exact Or.inl rfl | exact Or.inr rfl) (pe_lst (pa_cons (pe_ix (r := rIxT K) ix_tup (pe_ix (r := rIxL K) ix_list (pv 0) (pe_ix (r := rIxL K) ix_list (pv 1) (pe_int) (fun _ _ => rfl)) (fun _ _ => rfl)) (pe_int) (fun _ _ => rfl)) pa_nil)))
      (pss_cons (ps_for PassesOwn.never rfl (pi_listK (K := K) (pv 1)) (pg_name (i := 3) sc_law_knots.nd rfl (by first | exact Or.inl rfl | exact Or.inr rfl)) (pss_cons (ps_if (pt_cmpR op_ne (pe_ix (r := rIxT K) ix_tup (pe_ix (r := rIxL K) ix_list (pv 0) (pv 3) (fun _ _ => rfl)) (pe_int) (fun _ _ => rfl)) (pe_ix (r := rIxL K) ix_list (pv 2) (pe_un un_neg (pe_int)) (fun _ _ => rfl)) (nomark _)) (pss_one (ps_ret (pe_lst pa_nil))) pss_nil)
      (pss_one (ps_expr (pe_bm PySem.F.plainAttrs_list PySem.F.slot_list_append PySem.F.type_list_append mt_append (pv 2) (pa_cons (pe_ix (r := rIxT K) ix_tup (pe_ix (r := rIxL K) ix_list (pv 0) (pv 3) (fun _ _ => rfl)) (pe_int) (fun _ _ => rfl)) pa_nil))))))
      (pss_one (ps_ret (pv 2))))))), fun b Q sb k => ?_⟩
  try dsimp only
  try dsimp only at k
  obtain ⟨hc, hrl⟩ := hp
  obtain ⟨i, r, hcr⟩ : ∃ i r, c = i :: r := by
    cases c with
    | nil => exact absurd rfl hc.ne
    | cons i r => exact ⟨i, r, rfl⟩
  have e0 : atI c 0 = some i := by
    rw [hcr]
    exact iget_at (l := i :: r) (by decide) (by simp)
  have him := hc.rng i (by rw [hcr]; simp)
  have hcl := hc.len
  refine sq_no (et_or (et_not (et_B (ev_cb (ea_cons (ev_var rfl) (ea_cons (ev_ty) ea_nil)) (rc_isi (c := true) (fun _ _ _ => ty_lst) (by decide +kernel))))) fun _ => (et_test (ev_op (ev_var rfl) (ev_lst I [] ea_nil) rv_eqL))) (by simp [hc.ne]) ?_
  refine sq_no (et_not (et_B (ev_cb (ea_cons (ev_lcA Bo (fun z => true) (fun z => [some (L Ro rs), some (L I c), none, some (I z)]) (src_list (ev_var rfl)) (fun z _ => tg_name) (fun z hz O => Ev.cast (ev_andV (ev_call z (ea_cons (ev_var rfl) ea_nil) trivial) fun _ => (ev_chain (ev_int) (ev_var rfl) rv_le (fun _ => (ev_cb (ea_cons (ev_var rfl) ea_nil) rc_lenL)) (fun _ => rv_lt))) ?_) (by omega)) ea_nil) rc_all))) (by simp) ?_
  · have h := hc.rng z hz
    simp [h.1, h.2]
  refine sq_asgX (evx_lst I [(rp rs i).1] (ea_cons (ev_op (ev_op (ev_var rfl) (ev_op (ev_var rfl) (ev_int) (rv_ixL e0)) (rv_ixL (rp_at him.1 him.2))) (ev_int) (rv_ixT rfl)) ea_nil)) fun l => ?_
  refine sq_for (vs := [3]) (src_list (ev_var rfl)) (fun j => [some (L Ro rs), some (L I c), some (At l), none]) (fun j => [(l, oL I ((rp rs i).1 :: (c.take j).map fun q => (rp rs q).2.1))]) (fun j z => [some (L Ro rs), some (L I c), some (At l), some (I z)]) (.yes rfl (.yes rfl (.yes rfl (.no .nil)))) rfl (fun j z hz => tg_name) (fun b1 r1 j z hz => ?_) ?_
  · have hzr := hc.rng z (List.mem_of_getElem? hz)
    refine sq_no (et_test (ev_op (ev_op (ev_op (ev_var rfl) (ev_var rfl) (rv_ixL (rp_at hzr.1 hzr.2))) (ev_int) (rv_ixT rfl)) (ev_op (ev_var rfl) (ev_neg (ev_int)) (rv_ixO (List.mem_cons_self ..) (atI_lastD (by simp)))) rv_ne)) ?_ ?_
    · rw [kn_last hcr hc.ch hz]
      simp
    · refine go_app (ev_var rfl) (ev_op (ev_op (ev_var rfl) (ev_var rfl) (rv_ixL (rp_at hzr.1 hzr.2))) (ev_int) (rv_ixT rfl)) ⟨_, _, List.mem_cons_self .., rfl⟩ ?_ (nx_pst' (.yes rfl (.yes rfl (.yes rfl (.no .nil)))) ?_)
      · have := List.length_take (i := j) (l := c)
        simp only [List.length_cons, List.length_map]
        omega
      · rw [List.take_succ, hz]
        simp
  · rw [List.take_length]
    refine go_free (i := 2) rfl ?_
    exact goR k.fin (ev_var rfl) (by rw [← kn_eq hcr])

abbrev N_law_sums : List PySem.Str := ["_law_ropes_here", "_law_many", "_law_goal", "_law_best", "_law_turn", "_law_rope", "_law_least"]
theorem sc_law_sums : FnScope N_law_sums ["_law_ropes_here", "_law_many", "_law_goal"] (defScope s__law_sums) := ⟨rfl, rfl, rfl, by decide +kernel, rfl, by decide +kernel, by decide +kernel⟩
abbrev sp_law_sums (K : PySem.W.Frag) : Sp := SpP (fun a : Int × List Rope × Int => okRs a.1 a.2.1 ∧ 0 ≤ a.2.2 ∧ a.2.2 ≤ a.1) (fun a => [L Ro a.2.1, I a.1, I a.2.2]) (fun a => L Op (col a.1 fun k => Df0 a.1 a.2.1 k a.2.2))
theorem ok_law_sums (W : Wd K mg) : Fn Pg w K mg base 1 "_law_sums" (sp_law_sums K) [] := by
  obtain ⟨fd, F⟩ := W.says.def_ 45 (d := d__law_sums) rfl
  refine ⟨_, fd, ["_law_ropes_here", "_law_many", "_law_goal"], [], fn_ok F sc_law_sums (fun _ => rfl) (by decide) ?_, W.g 45 _ rfl, F.kp, FunD.bindsN F (fun _ _ _ _ _ _ us hl => match us, hl with | [_, _, _], _ => rfl), .nil⟩
  rintro cdv A outer s H E hr ⟨n, rs, g⟩ hp
  try dsimp only at hp
  refine ⟨_, (pss_cons (ps_set (i := 3) sc_law_sums.nd rfl (by first | exact Or.inl rfl | exact Or.inr rfl) (pe_op op_rep (pe_lst (pa_cons (pe_non) pa_nil)) (pe_op op_add (pv 1) (pe_int))))
      (pss_cons (ps_asg (pe_int) (pg_sub (pv 3) (pv 2) set_list))
      (pss_cons (ps_for PassesOwn.never rfl (pi_range1 (by rfl) (W.z 68 _ rfl) (pa_cons (pv 1) pa_nil)) (pg_name (i := 4) sc_law_sums.nd rfl (by first | exact Or.inl rfl | exact Or.inr rfl)) (pss_one (ps_for PassesOwn.never rfl (pi_listK (K := K) (pv 0)) (pg_name (i := 5) sc_law_sums.nd rfl (by first | exact Or.inl rfl | exact Or.inr rfl)) (pss_one (ps_if (pt_cmpR op_notN (pe_ix (r := rIxL K) ix_list (pv 3) (pe_ix (r := rIxT K) ix_tup (pv 5) (pe_int) (fun _ _ => rfl)) (fun _ _ => rfl)) (pe_non) (nomark _)) (pss_cons (ps_set (i := 6) sc_law_sums.nd rfl (by first | exact Or.inl rfl | exact Or.inr rfl) (pe_op op_add (pe_ix (r := rIxL K) ix_list (pv 3) (pe_ix (r := rIxT K) ix_tup (pv 5) (pe_int) (fun _ _ => rfl)) (fun _ _ => rfl)) (pe_ix (r := rIxT K) ix_tup (pv 5) (pe_int) (fun _ _ => rfl))))
      (pss_one (ps_if (PW.pt (pw_or (pt_cmpR op_isN (pe_ix (r := rIxL K) ix_list (pv 3) (pe_ix (r := rIxT K) ix_tup (pv 5) (pe_int) (fun _ _ => rfl)) (fun _ _ => rfl)) (pe_non) (nomark _)) (pw_or1 (pt_cmpR op_lt (pv 6) (pe_ix (r := rIxL K) ix_list (pv 3) (pe_ix (r := rIxT K) ix_tup (pv 5) (pe_int) (fun _ _ => rfl)) (fun _ _ => rfl)) (nomark _))))) (pss_one (ps_asg (pv 6) (pg_sub (pv 3) (pe_ix (r := rIxT K) ix_tup (pv 5) (pe_int) (fun _ _ => rfl)) set_list))) pss_nil))) pss_nil)))))
      (pss_one (ps_ret (pv 3)))))), fun b Q sb k => ?_⟩
  try dsimp only
  try dsimp only at k
  obtain ⟨hok, g0, g1⟩ := hp
  have n1 : 1 ≤ n := hok.n1
  have n8 : n ≤ 8 := hok.n8
  refine sq_asgX (evx_rep (ev_lst Op [none] (ea_cons (ev_non) ea_nil)) (ev_op (ev_var rfl) (ev_int) rv_add) (by omega) (by omega) (by decide)) fun l => ?_
  rw [rep_col]
  obtain ⟨j0, hj0, ej0⟩ := col_set (g := fun _ => (none : Option Int)) (x := some 0) g0 g1
  refine sq_setL (x := some 0) (ev_int) (ev_var rfl) (ev_var rfl) hj0 ?_
  have e1 : (col n fun i => if i = g then some 0 else none) = col n (val (one g)) := col_congr fun k _ _ => (val_one g k).symm
  rw [ej0, e1]
  refine sq_for (vs := [4]) (src_rng1 (ea_cons (ev_var rfl) ea_nil) (by omega) (by omega)) (fun t => [some (L Ro rs), some (I n), some (I g), some (At l), none, none, none]) (fun t => [(l, oL Op (col n (val (it rs t (one g)))))]) (fun t z => [some (L Ro rs), some (I n), some (I g), some (At l), some (I z), none, none]) (.yes rfl (.yes rfl (.yes rfl (.yes rfl (.no (.no (.no .nil))))))) rfl (fun i z hz => tg_name) (fun b1 r1 t z hz => ?_) ?_
  · refine go_for (vs := [5]) (src_list (ev_var rfl)) (fun i => [some (L Ro rs), some (I n), some (I g), some (At l), none, none, none]) (fun i => [(l, oL Op (col n (val (((en 0 rs).take i).foldl rx (it rs t (one g), none)).1)))]) (fun i z => [some (L Ro rs), some (I n), some (I g), some (At l), none, some (Ro z), none]) (.yes rfl (.yes rfl (.yes rfl (.yes rfl (.no (.no (.no .nil))))))) rfl (fun i z hz => tg_name) (fun b2 r2 i z hz => ?_) ?_
    · have hst : ((en 0 rs).take (i + 1)).foldl rx (it rs t (one g), none) = rx (((en 0 rs).take i).foldl rx (it rs t (one g), none)) (0 + (i : Int), z) := by
        rw [List.take_succ, en_at hz, List.foldl_append]
        rfl
      have hr := hok.all z (List.mem_of_getElem? hz)
      rw [hst]
      generalize ((en 0 rs).take i).foldl rx (it rs t (one g), none) = s
      cases e : dl s.1 z.2.1 with
      | none =>
        have hx : rx s (0 + (i : Int), z) = s := by unfold rx; rw [e]
        rw [hx]
        exact go_no (et_test (ev_op (ev_op (ev_var rfl) (ev_op (ev_var rfl) (ev_int) (rv_ixT rfl)) (rv_ixO (List.mem_cons_self ..) (col_at hr.2.2.1 hr.2.2.2.1))) (ev_non) rv_notN)) (by rw [val_none e]; rfl) (nx_pst (.yes rfl (.yes rfl (.yes rfl (.yes rfl (.no (.no (.no .nil))))))))
      | some q =>
        have hq : atI (col n (val s.1)) z.2.1 = some (some q.1) := by rw [col_at hr.2.2.1 hr.2.2.2.1, val_some e]
        refine go_if (c := true) (et_test (ev_op (ev_op (ev_var rfl) (ev_op (ev_var rfl) (ev_int) (rv_ixT rfl)) (rv_ixO (List.mem_cons_self ..) hq)) (ev_non) (rv_notN (o := some q.1)))) (fun _ => ?_) fun h => by cases h
        refine sq_asg (P := I (q.1 + z.2.2)) (ev_op (ev_op (ev_var rfl) (ev_op (ev_var rfl) (ev_int) (rv_ixT rfl)) (rv_ixO (List.mem_cons_self ..) hq)) (ev_op (ev_var rfl) (ev_int) (rv_ixT rfl)) rv_add) ?_
        refine go_if (O1 := [(l, oL Op (col n (val s.1)))]) (c := !(dl s.1 z.1).isSome || decide (q.1 + z.2.2 < ((dl s.1 z.1).getD (0, [])).1)) ?_ (fun h => ?_) fun h => ?_
        · cases e2 : dl s.1 z.1 with
          | none =>
            have h2 : atI (col n (val s.1)) z.1 = some none := by rw [col_at hr.1 hr.2.1, val_none e2]
            exact et_or (c := true) (et_test (ev_op (ev_op (ev_var rfl) (ev_op (ev_var rfl) (ev_int) (rv_ixT rfl)) (rv_ixO (List.mem_cons_self ..) h2)) (ev_non) (rv_isN (o := none)))) fun h => by cases h
          | some y =>
            have h2 : atI (col n (val s.1)) z.1 = some (some y.1) := by rw [col_at hr.1 hr.2.1, val_some e2]
            exact et_or (c := false) (et_test (ev_op (ev_op (ev_var rfl) (ev_op (ev_var rfl) (ev_int) (rv_ixT rfl)) (rv_ixO (List.mem_cons_self ..) h2)) (ev_non) (rv_isN (o := some y.1)))) fun _ => (et_test (ev_op (ev_var rfl) (ev_op (ev_var rfl) (ev_op (ev_var rfl) (ev_int) (rv_ixT rfl)) (rv_ixO (List.mem_cons_self ..) h2)) rv_lt))
        · have hx : rx s (0 + (i : Int), z) = (dp s.1 z.1 (q.1 + z.2.2, (0 + (i : Int)) :: q.2), some z.1) := by
            unfold rx
            rw [e]
            exact if_pos h
          obtain ⟨j, hj, ej⟩ := col_set (g := val s.1) (x := some (q.1 + z.2.2)) hr.1 hr.2.1
          refine go_setL (x := some (q.1 + z.2.2)) (ev_var rfl) (ev_var rfl) (ev_op (ev_var rfl) (ev_int) (rv_ixT rfl)) hj (nx_pst' (.yes rfl (.yes rfl (.yes rfl (.yes rfl (.no (.no (.no .nil))))))) ?_)
          rw [hx, ej]
          have : (col n fun i => if i = z.1 then some (q.1 + z.2.2) else val s.1 i) = col n (val (dp s.1 z.1 (q.1 + z.2.2, (0 + (i : Int)) :: q.2))) := col_congr fun k _ _ => (val_dp (b := s.1) (u := z.1) (x := (q.1 + z.2.2, (0 + (i : Int)) :: q.2)) k).symm
          rw [this]
        · have hx : rx s (0 + (i : Int), z) = s := by
            unfold rx
            rw [e]
            exact if_neg (by rw [h]; decide)
          rw [hx]
          exact go_next (nx_pst (.yes rfl (.yes rfl (.yes rfl (.yes rfl (.no (.no (.no .nil))))))))
    · refine nx_pst' (.yes rfl (.yes rfl (.yes rfl (.yes rfl (.no (.no (.no .nil))))))) ?_
      have : (en 0 rs).take rs.length = en 0 rs := List.take_of_length_le (by rw [en_length]; exact Nat.le_refl _)
      rw [this]
      rfl
  · rw [rg_length]
    refine go_free (i := 3) rfl ?_
    refine goR k.fin (ev_var rfl) ?_
    have : (n - 0).toNat = n.toNat := by omega
    rw [this]
    rfl

abbrev N_law_dist : List PySem.Str := ["_law_ropes_here", "_law_many", "_law_table", "_law_goal", "_law_knot"]
theorem sc_law_dist : FnScope N_law_dist ["_law_ropes_here", "_law_many"] (defScope s__law_dist) := ⟨rfl, rfl, rfl, by decide +kernel, rfl, by decide +kernel, by decide +kernel⟩
abbrev sp_law_dist (K : PySem.W.Frag) : Sp := SpP (fun a : Int × List Rope => okRs a.1 a.2) (fun a => [L Ro a.2, I a.1]) (fun a => L (L Op) (tbl a.1 (Df0 a.1 a.2)))
theorem ok_law_dist (W : Wd K mg) : Fn Pg w K mg base 2 "_law_dist" (sp_law_dist K) [] := by
  obtain ⟨fd, F⟩ := W.says.def_ 46 (d := d__law_dist) rfl
  refine ⟨_, fd, ["_law_ropes_here", "_law_many"], [], fn_ok F sc_law_dist (fun _ => rfl) (by decide) ?_, W.g 46 _ rfl, F.kp, FunD.bindsN F (fun _ _ _ _ _ _ us hl => match us, hl with | [_, _], _ => rfl), .nil⟩
  rintro cdv A outer s H E hr ⟨n, rs⟩ hp
  try dsimp only at hp
  refine ⟨_, (pss_cons (ps_set (i := 2) sc_law_dist.nd rfl (by first | exact Or.inl rfl | exact Or.inr rfl) (pe_lc (own := [("_law_goal", 3)]) rfl sc_law_dist.nd (pi_range1 (by rfl) (W.z 68 _ rfl) (pa_cons (pe_op op_add (pv 1) (pe_int)) pa_nil)) (blkOk_by (own := [("_law_goal", 3)]) (N := N_law_dist) (sc := defScope s__law_dist) (by decide +kernel)) (fun _ _ _ _ _ => pg_name (i := 3) sc_law_dist.nd rfl (by first | exact Or.inl rfl | exact Or.inr rfl)) (fun _ _ _ _ _ => pts_nil) (fun _ _ _ _ _ => (pe_fn (ok_law_sums W) (hr.mono (by decide)) (by rfl) (pa_cons (pv 0) (pa_cons (pv 1) (pa_cons (pv 3) pa_nil)))))))
      (pss_one (ps_ret (pe_lc (own := [("_law_knot", 4)]) rfl sc_law_dist.nd (pi_range1 (by rfl) (W.z 68 _ rfl) (pa_cons (pe_op op_add (pv 1) (pe_int)) pa_nil)) (blkOk_by (own := [("_law_knot", 4)]) (N := N_law_dist) (sc := defScope s__law_dist) (by decide +kernel)) (fun _ _ _ _ _ => pg_name (i := 4) sc_law_dist.nd rfl (by first | exact Or.inl rfl | exact Or.inr rfl)) (fun _ _ _ _ _ => pts_nil) (fun _ _ _ _ _ => (pe_lc (own := [("_law_goal", 3)]) rfl sc_law_dist.nd (pi_range1 (by rfl) (W.z 68 _ rfl) (pa_cons (pe_op op_add (pv 1) (pe_int)) pa_nil)) (blkOk_by (own := [("_law_goal", 3)]) (N := N_law_dist) (sc := _) (by kernel_rfl)) (fun _ _ _ _ _ => pg_name (i := 3) sc_law_dist.nd rfl (by first | exact Or.inl rfl | exact Or.inr rfl)) (fun _ _ _ _ _ => pts_nil) (fun _ _ _ _ _ => (pe_ix (r := rIxL K) ix_list (pe_ix (r := rIxL K) ix_list (pv 2) (pv 3) (fun _ _ => rfl)) (pv 4) (fun _ _ => rfl))))))))), fun b Q sb k => ?_⟩
  try dsimp only
  try dsimp only at k
  have n1 : 1 ≤ n := hp.n1
  have n8 : n ≤ 8 := hp.n8
  have hrl := rg_length 0 (n + 1)
  refine sq_asg (ev_lcA (L Op) (fun g => col n fun u => Df0 n rs u g) (fun z => [some (L Ro rs), some (I n), none, some (I z), none]) (src_rng1 (ea_cons (ev_op (ev_var rfl) (ev_int) rv_add) ea_nil) (by omega) (by omega)) (fun z _ => tg_name) (fun z hz O => (ev_call (n, rs, z) (ea_cons (ev_var rfl) (ea_cons (ev_var rfl) (ea_cons (ev_var rfl) ea_nil))) ⟨hp, (mem_rg.mp hz).1, by have := (mem_rg.mp hz).2; show z ≤ n; omega⟩)) (by omega)) ?_
  exact goR k.fin (ev_lcA (L Op) (fun u => col n (Df0 n rs u)) (fun z => [some (L Ro rs), some (I n), some (L (L Op) (col n fun g => col n fun u => Df0 n rs u g)), none, some (I z)]) (src_rng1 (ea_cons (ev_op (ev_var rfl) (ev_int) rv_add) ea_nil) (by omega) (by omega)) (fun z _ => tg_name) (fun u hu O => (ev_lcA Op (Df0 n rs u) (fun z => [some (L Ro rs), some (I n), some (L (L Op) (col n fun g => col n fun u => Df0 n rs u g)), some (I z), some (I u)]) (src_rng1 (ea_cons (ev_op (ev_var rfl) (ev_int) rv_add) ea_nil) (by omega) (by omega)) (fun z _ => tg_name) (fun g hg O => (ev_op (ev_op (ev_var rfl) (ev_var rfl) (rv_ixL (col_at (mem_rg.mp hg).1 (by have := (mem_rg.mp hg).2; omega)))) (ev_var rfl) (rv_ixL (col_at (mem_rg.mp hu).1 (by have := (mem_rg.mp hu).2; omega))))) (by omega))) (by omega)) rfl

abbrev N_law_limits : List PySem.Str := ["_law_dist_here", "_law_slips_here", "_law_limits_here", "_law_slip", "_law_low"]
theorem sc_law_limits : FnScope N_law_limits ["_law_dist_here", "_law_slips_here"] (defScope s__law_limits) := ⟨rfl, rfl, rfl, by decide +kernel, rfl, by decide +kernel, by decide +kernel⟩
abbrev sp_law_limits (K : PySem.W.Frag) : Sp := SpP (fun a : Int × DF × Slips => 0 ≤ a.1 ∧ a.1 ≤ 8 ∧ okSl a.1 a.2.2) (fun a => [L (L Op) (tbl a.1 a.2.1), L PII a.2.2]) (fun a => L Op (col a.1 (dl (lims a.2.1 a.2.2))))
theorem ok_law_limits (W : Wd K mg) : Fn Pg w K mg base 1 "_law_limits" (sp_law_limits K) [] := by
  obtain ⟨fd, F⟩ := W.says.def_ 47 (d := d__law_limits) rfl
  refine ⟨_, fd, ["_law_dist_here", "_law_slips_here"], [], fn_ok F sc_law_limits (fun _ => rfl) (by decide) ?_, W.g 47 _ rfl, F.kp, FunD.bindsN F (fun _ _ _ _ _ _ us hl => match us, hl with | [_, _], _ => rfl), .nil⟩
  rintro cdv A outer s H E hr ⟨n, Df, sl⟩ hp
  try dsimp only at hp
  refine ⟨_, (pss_cons (ps_set (i := 2) sc_law_limits.nd rfl (by first | exact Or.inl rfl | exact Or.inr rfl) (pe_op op_rep (pe_lst (pa_cons (pe_non) pa_nil)) (pe_callB (r := rLenQ K) call_len_seq (by rfl) (W.z 60 _ rfl) PySem.boot_len (pa_cons (pv 0) pa_nil))))
      (pss_cons (ps_for PassesOwn.never rfl (pi_listK (K := K) (pv 1)) (pg_name (i := 3) sc_law_limits.nd rfl (by first | exact Or.inl rfl | exact Or.inr rfl)) (pss_cons (ps_set (i := 4) sc_law_limits.nd rfl (by first | exact Or.inl rfl | exact Or.inr rfl) (pe_ix (r := rIxL K) ix_list (pe_ix (r := rIxL K) ix_list (pv 0) (pe_int) (fun _ _ => rfl)) (pe_ix (r := rIxT K) ix_tup (pv 3) (pe_int) (fun _ _ => rfl)) (fun _ _ => rfl)))
      (pss_one (ps_asg (pe_ifExp (pt_cmpR op_isN (pv 4) (pe_non) (nomark _)) (pe_ix (r := rIxT K) ix_tup (pv 3) (pe_int) (fun _ _ => rfl)) (pe_callB (call_max2 rfl) (by rfl) (W.z 72 _ rfl) (by decide +kernel) (pa_cons (pe_ix (r := rIxT K) ix_tup (pv 3) (pe_int) (fun _ _ => rfl)) (pa_cons (pe_op op_sub (pe_int) (pv 4)) pa_nil)))) (pg_sub (pv 2) (pe_ix (r := rIxT K) ix_tup (pv 3) (pe_int) (fun _ _ => rfl)) set_list)))))
      (pss_one (ps_ret (pv 2))))), fun b Q sb k => ?_⟩
  try dsimp only
  try dsimp only at k
  obtain ⟨n0, n8, hs⟩ := hp
  have htl := tbl_len (n := n) Df
  have hsl := hs.len
  refine sq_asgX (evx_rep (k := n + 1) (ev_lst Op [none] (ea_cons (ev_non) ea_nil)) (Ev.cast (ev_cb (ea_cons (ev_var rfl) ea_nil) rc_lenL) (congrArg I (by omega))) (by omega) (by omega) (by decide)) fun l => ?_
  rw [rep_col]
  refine sq_for (vs := [3]) (src_list (ev_var rfl)) (fun i => [some (L (L Op) (tbl n Df)), some (L PII sl), some (At l), none, none]) (fun i => [(l, oL Op (col n (dl (lims Df (sl.take i)))))]) (fun i z => [some (L (L Op) (tbl n Df)), some (L PII sl), some (At l), some (PII z), none]) (.yes rfl (.yes rfl (.yes rfl (.no (.no .nil))))) rfl (fun i z hz => tg_name) (fun b1 r1 i z hz => ?_) ?_
  · have hr := hs.rng z (List.mem_of_getElem? hz)
    have e : (col n fun k => if k = z.1 then some (lv Df z) else dl (lims Df (sl.take i)) k) = col n (dl (lims Df (sl.take (i + 1)))) := col_congr fun k _ _ => (lims_take hs.nd hz k).symm
    obtain ⟨j, hj, ej⟩ := col_set (n := n) (k := z.1) (g := dl (lims Df (sl.take i))) (x := some (lv Df z)) (by omega) hr.2
    refine sq_asg (P := Op (Df 0 z.1)) (ev_op (ev_op (ev_var rfl) (ev_int) (rv_ixL (col_at (g := fun k => col n (Df k)) (Int.le_refl 0) n0))) (ev_op (ev_var rfl) (ev_int) (rv_ixT rfl)) (rv_ixL (col_at (by omega) hr.2))) ?_
    refine go_setL (x := some (lv Df z)) ?_ (ev_var rfl) (ev_op (ev_var rfl) (ev_int) (rv_ixT rfl)) hj (nx_pst' (.yes rfl (.yes rfl (.yes rfl (.no (.no .nil))))) (by rw [ej, e]))
    show Ev _ _ _ _ (I (lv Df z)) _
    unfold lv
    cases q : Df 0 z.1 with
    | none => exact ev_if (et_test (ev_op (ev_var rfl) (ev_non) (rv_isN (o := none)))) (fun _ => (ev_op (ev_var rfl) (ev_int) (rv_ixT rfl))) (fun h => by cases h)
    | some x => exact ev_if (et_test (ev_op (ev_var rfl) (ev_non) (rv_isN (o := some x)))) (fun h => by cases h) (fun _ => (ev_cb (ea_cons (ev_op (ev_var rfl) (ev_int) (rv_ixT rfl)) (ea_cons (ev_op (ev_int) (ev_var rfl) rv_sub) ea_nil)) rc_max2))
  · rw [List.take_length]
    refine go_free (i := 2) rfl ?_
    exact goR k.fin (ev_var rfl) rfl

abbrev N_law_fallen : List PySem.Str := ["_law_dist_here", "_law_high", "_law_limits_here", "_law_caps", "_law_found", "_law_knot", "_law_some", "_law_at"]
theorem sc_law_fallen : FnScope N_law_fallen ["_law_dist_here", "_law_high", "_law_limits_here"] (defScope s__law_fallen) := ⟨rfl, rfl, rfl, by decide +kernel, rfl, by decide +kernel, by decide +kernel⟩
abbrev sp_law_fallen (K : PySem.W.Frag) : Sp := SpP (fun a : Int × DF × List Int × (Int → Option Int) => 0 ≤ a.1 ∧ a.1 ≤ 8 ∧ (a.2.2.1.length : Int) = a.1 + 1 ∧ ∀ c, 0 ≤ c → c ≤ a.1 → (a.2.1 c c).isSome = true) (fun a => [L (L Op) (tbl a.1 a.2.1), L I a.2.2.1, L Op (col a.1 a.2.2.2)]) (fun a => L I (col a.1 (lfall a.1 a.2.1 a.2.2.1 a.2.2.2)))
theorem ok_law_fallen (W : Wd K mg) : Fn Pg w K mg base 1 "_law_fallen" (sp_law_fallen K) [] := by
  obtain ⟨fd, F⟩ := W.says.def_ 48 (d := d__law_fallen) rfl
  refine ⟨_, fd, ["_law_dist_here", "_law_high", "_law_limits_here"], [], fn_ok F sc_law_fallen (fun _ => rfl) (by decide) ?_, W.g 48 _ rfl, F.kp, FunD.bindsN F (fun _ _ _ _ _ _ us hl => match us, hl with | [_, _, _], _ => rfl), .nil⟩
  rintro cdv A outer s H E hr ⟨n, Df, hg, lf⟩ hp
  try dsimp only at hp
  refine ⟨_, (pss_cons (ps_set (i := 3) sc_law_fallen.nd rfl (by first | exact Or.inl rfl | exact Or.inr rfl) (pe_lc (own := [("_law_knot", 5)]) rfl sc_law_fallen.nd (pi_range1 (by rfl) (W.z 68 _ rfl) (pa_cons (pe_callB (r := rLenQ K) call_len_seq (by rfl) (W.z 60 _ rfl) PySem.boot_len (pa_cons (pv 1) pa_nil)) pa_nil)) (blkOk_by (own := [("_law_knot", 5)]) (N := N_law_fallen) (sc := defScope s__law_fallen) (by decide +kernel)) (fun _ _ _ _ _ => pg_name (i := 5) sc_law_fallen.nd rfl (by first | exact Or.inl rfl | exact Or.inr rfl)) (fun _ _ _ _ _ => pts_nil) (fun _ _ _ _ _ => (pe_ifExp (pt_cmpR op_isN (pe_ix (r := rIxL K) ix_list (pv 2) (pv 5) (fun _ _ => rfl)) (pe_non) (nomark _)) (pe_ix (r := rIxL K) ix_list (pv 1) (pv 5) (fun _ _ => rfl)) (pe_callB (call_min2 rfl) (by rfl) (W.z 71 _ rfl) (by decide +kernel) (pa_cons (pe_ix (r := rIxL K) ix_list (pv 1) (pv 5) (fun _ _ => rfl)) (pa_cons (pe_ix (r := rIxL K) ix_list (pv 2) (pv 5) (fun _ _ => rfl)) pa_nil)))))))
      (pss_cons (ps_set (i := 4) sc_law_fallen.nd rfl (by first | exact Or.inl rfl | exact Or.inr rfl) (pe_lst pa_nil))
      (pss_cons (ps_for PassesOwn.never rfl (pi_range1 (by rfl) (W.z 68 _ rfl) (pa_cons (pe_callB (r := rLenQ K) call_len_seq (by rfl) (W.z 60 _ rfl) PySem.boot_len (pa_cons (pv 1) pa_nil)) pa_nil)) (pg_name (i := 5) sc_law_fallen.nd rfl (by first | exact Or.inl rfl | exact Or.inr rfl)) (pss_cons (ps_setLc (i := 6) (own := [("_law_at", 7)]) rfl sc_law_fallen.nd rfl rfl (sw_true rfl rfl rfl (by decide +kernel)) (pi_range1 (by rfl) (W.z 68 _ rfl) (pa_cons (pe_callB (r := rLenQ K) call_len_seq (by rfl) (W.z 60 _ rfl) PySem.boot_len (pa_cons (pv 1) pa_nil)) pa_nil)) (blkOk_by (own := [("_law_at", 7)]) (N := N_law_fallen) (sc := defScope s__law_fallen) (by decide +kernel)) (fun _ _ _ _ _ => pg_name (i := 7) sc_law_fallen.nd rfl (by first | exact Or.inl rfl | exact Or.inr rfl)) (fun _ _ _ _ _ => pts_one (pt_cmpR op_notN (pe_ix (r := rIxL K) ix_list (pe_ix (r := rIxL K) ix_list (pv 0) (pv 5) (fun _ _ => rfl)) (pv 7) (fun _ _ => rfl)) (pe_non) (nomark _))) (fun _ _ _ _ _ => (pe_op op_add (pe_ix (r := rIxL K) ix_list (pv 3) (pv 7) (fun _ _ => rfl)) (pe_ix (r := rIxL K) ix_list (pe_ix (r := rIxL K) ix_list (pv 0) (pv 5) (fun _ _ => rfl)) (pv 7) (fun _ _ => rfl)))))
      (pss_one (ps_expr (pe_bm PySem.F.plainAttrs_list PySem.F.slot_list_append PySem.F.type_list_append mt_append (pv 4) (pa_cons (pe_callB (r := rMin K) (cr_min rfl) (by rfl) (W.z 71 _ rfl) (by decide +kernel) (pa_cons (pv 6) pa_nil)) pa_nil))))))
      (pss_one (ps_ret (pv 4)))))), fun b Q sb k => ?_⟩
  try dsimp only
  try dsimp only at k
  obtain ⟨n0, n8, hl, hse⟩ := hp
  have hrl := rg_length 0 (n + 1)
  have eI : (I (hg.length : Int)) = I (n + 1) := congrArg I hl
  refine sq_asg (P := L I (col n (lcap hg lf))) (ev_lcA I (lcap hg lf) (fun z => [some (L (L Op) (tbl n Df)), some (L I hg), some (L Op (col n lf)), none, none, some (I z), none, none]) (src_rng1 (n := n + 1) (ea_cons (Ev.cast (ev_cb (ea_cons (ev_var rfl) ea_nil) rc_lenL) eI) ea_nil) (by omega) (by omega)) (fun z _ => tg_name) (fun z hz O => ?_) (by omega)) ?_
  · have hz1 := mem_rg.mp hz
    have hc := col_at (n := n) (k := z) (g := lf) hz1.1 (by omega)
    have hh := iget_at (l := hg) (k := z) hz1.1 (by omega)
    unfold lcap
    cases q : lf z with
    | none =>
      rw [q] at hc
      exact ev_if (et_test (ev_op (ev_op (ev_var rfl) (ev_var rfl) (rv_ixL hc)) (ev_non) (rv_isN (o := none)))) (fun _ => (ev_op (ev_var rfl) (ev_var rfl) (rv_ixL hh))) (fun h => by cases h)
    | some e =>
      rw [q] at hc
      exact ev_if (et_test (ev_op (ev_op (ev_var rfl) (ev_var rfl) (rv_ixL hc)) (ev_non) (rv_isN (o := some e)))) (fun h => by cases h) (fun _ => (ev_cb (ea_cons (ev_op (ev_var rfl) (ev_var rfl) (rv_ixL hh)) (ea_cons (ev_op (ev_var rfl) (ev_var rfl) (rv_ixL hc)) ea_nil)) rc_min2))
  refine sq_asgX (evx_lst I [] ea_nil) fun l => ?_
  refine sq_for (vs := [5]) (src_rng1 (n := n + 1) (ea_cons (Ev.cast (ev_cb (ea_cons (ev_var rfl) ea_nil) rc_lenL) eI) ea_nil) (by omega) (by omega)) (fun i => [some (L (L Op) (tbl n Df)), some (L I hg), some (L Op (col n lf)), some (L I (col n (lcap hg lf))), some (At l), none, none, none]) (fun i => [(l, oL I (((rg 0 (n + 1)).take i).map (lfall n Df hg lf)))]) (fun i z => [some (L (L Op) (tbl n Df)), some (L I hg), some (L Op (col n lf)), some (L I (col n (lcap hg lf))), some (At l), some (I z), none, none]) (.yes rfl (.yes rfl (.yes rfl (.yes rfl (.yes rfl (.no (.no (.no .nil)))))))) rfl (fun i z hz => tg_name) (fun b1 r1 i c hc => ?_) ?_
  · have hc1 := rg_get hc
    have c0 : 0 ≤ c := by omega
    have cn : c ≤ n := by omega
    refine sq_asg (P := L I (lsome n Df hg lf c)) (ev_lc I (fun a => !(Df c a).isNone) (fun a => lcap hg lf a + (Df c a).getD 0) (fun z => [some (L (L Op) (tbl n Df)), some (L I hg), some (L Op (col n lf)), some (L I (col n (lcap hg lf))), some (At l), some (I c), none, some (I z)]) (src_rng1 (n := n + 1) (ea_cons (Ev.cast (ev_cb (ea_cons (ev_var rfl) ea_nil) rc_lenL) eI) ea_nil) (by omega) (by omega)) (fun z _ => tg_name)
      (fun z hz O => (et_test (ev_op (ev_op (ev_op (ev_var rfl) (ev_var rfl) (rv_ixL (col_at (g := fun k => col n (Df k)) c0 cn))) (ev_var rfl) (rv_ixL (col_at (mem_rg.mp hz).1 (by have := (mem_rg.mp hz).2; omega)))) (ev_non) rv_notN)))
      (fun z hz hq O => (ev_op (ev_op (ev_var rfl) (ev_var rfl) (rv_ixL (col_at (mem_rg.mp hz).1 (by have := (mem_rg.mp hz).2; omega)))) (Ev.cast (ev_op (ev_op (ev_var rfl) (ev_var rfl) (rv_ixL (col_at (g := fun k => col n (Df k)) c0 cn))) (ev_var rfl) (rv_ixL (col_at (mem_rg.mp hz).1 (by have := (mem_rg.mp hz).2; omega)))) (op_I hq)) rv_add)) (by omega)) ?_
    refine go_app (x := lfall n Df hg lf c) (ev_var rfl) (ev_cb (ea_cons (ev_var rfl) ea_nil) (rc_min ?_)) ⟨_, _, List.mem_cons_self .., rfl⟩ ?_ (nx_pst' (.yes rfl (.yes rfl (.yes rfl (.yes rfl (.yes rfl (.no (.no (.no .nil)))))))) ?_)
    · have h1 := hse c c0 cn
      intro e
      have h2 : lcap hg lf c + (Df c c).getD 0 ∈ lsome n Df hg lf c := List.mem_map.mpr ⟨c, List.mem_filter.mpr ⟨mem_rg.mpr ⟨c0, by omega⟩, by
        cases q : Df c c with
        | none =>
          rw [q] at h1
          cases h1
        | some x => rfl⟩, rfl⟩
      rw [e] at h2
      cases h2
    · have := List.length_take (i := i) (l := rg 0 (n + 1))
      rw [List.length_map]
      omega
    · rw [List.take_succ, hc]
      simp
  · rw [List.take_length]
    refine go_free (i := 4) rfl ?_
    exact goR k.fin (ev_var rfl) rfl

end
end Rb

set_option Elab.async false
set_option linter.all false
set_option maxRecDepth 100000
set_option maxHeartbeats 4000000
namespace Rb
open PySem PySem.Spec PyProof.Rows L2
section
variable {Pg : Program} {w : World} {K : PySem.W.Frag} {mg : Str → Option Value} {base : Heap}
abbrev N_law_pull : List PySem.Str := ["_law_ropes_here", "_law_high", "_law_then", "_law_limits_here", "_law_climber", "_law_number_here", "_law_lower"]
theorem sc_law_pull : FnScope N_law_pull ["_law_ropes_here", "_law_high", "_law_then", "_law_limits_here", "_law_climber", "_law_number_here"] (defScope s__law_pull) := ⟨rfl, rfl, rfl, by decide +kernel, rfl, by decide +kernel, by decide +kernel⟩
abbrev sp_law_pull (K : PySem.W.Frag) : Sp := SpP (fun a : Int × List Rope × List Int × List Int × (Int → Option Int) × Int × Option Int => okRs a.1 a.2.1 ∧ (a.2.2.1.length : Int) = a.1 + 1 ∧ (a.2.2.2.1.length : Int) = a.1 + 1 ∧ (0 ≤ a.2.2.2.2.2.1 ∧ a.2.2.2.2.2.1 ≤ a.1) ∧ okLPull a.2.1 a.2.2.1 a.2.2.2.1 a.2.2.2.2.1 a.2.2.2.2.2.1 a.2.2.2.2.2.2) (fun a => [L Ro a.2.1, L I a.2.2.1, L I a.2.2.2.1, L Op (col a.1 a.2.2.2.2.1), I a.2.2.2.2.2.1, Op a.2.2.2.2.2.2]) (fun a => Bo true)
theorem ok_law_pull (W : Wd K mg) : Fn Pg w K mg base 2 "_law_pull" (sp_law_pull K) [] := by
  obtain ⟨fd, F⟩ := W.says.def_ 50 (d := d__law_pull) rfl
  refine ⟨_, fd, ["_law_ropes_here", "_law_high", "_law_then", "_law_limits_here", "_law_climber", "_law_number_here"], [], fn_ok F sc_law_pull (fun _ => rfl) (by decide) ?_, W.g 50 _ rfl, F.kp, FunD.bindsN F (fun _ _ _ _ _ _ us hl => match us, hl with | [_, _, _, _, _, _], _ => rfl), .nil⟩
  rintro cdv A outer s H E hr ⟨n, rs, hg, th, lf, c, number⟩ hp
  try dsimp only at hp
  refine ⟨_, (pss_cons (ps_if (pt_cmpR op_isN (pv 5) (pe_non) (nomark _)) (pss_one (ps_ret ((pe_and (pe_cmpR op_notN (pe_ix (r := rIxL K) ix_list (pv 3) (pv 4) (fun _ _ => rfl)) (pe_non) (nomark _)) (pe_one (pe_cmpR op_eq (pe_ix (r := rIxL K) ix_list (pv 2) (pv 4) (fun _ _ => rfl)) (pe_ix (r := rIxL K) ix_list (pv 3) (pv 4) (fun _ _ => rfl)) (nomark _))))))) pss_nil)
      (pss_cons (ps_if (PW.pt (pw_or (pt_not (pt_val (pe_fn (ok_law_whole W) (hr.mono (by decide)) (by rfl) (pa_cons (pv 5) pa_nil)))) (pw_or (pt_not (pt_chain op_le op_lt (pe_int) (pv 5) (pe_callB (r := rLenQ K) call_len_seq (by rfl) (W.z 60 _ rfl) PySem.boot_len (pa_cons (pv 0) pa_nil)))) (pw_or1 (pt_cmpR op_ne (pe_ix (r := rIxT K) ix_tup (pe_ix (r := rIxL K) ix_list (pv 0) (pv 5) (fun _ _ => rfl)) (pe_int) (fun _ _ => rfl)) (pv 4) (nomark _)))))) (pss_one (ps_ret (pe_bl))) pss_nil)
      (pss_cons (ps_set (i := 6) sc_law_pull.nd rfl (by first | exact Or.inl rfl | exact Or.inr rfl) (pe_ix (r := rIxT K) ix_tup (pe_ix (r := rIxL K) ix_list (pv 0) (pv 5) (fun _ _ => rfl)) (pe_int) (fun _ _ => rfl)))
      (pss_one (ps_ret ((pe_and (pe_cmpR op_eq (pe_op op_sub (pe_ix (r := rIxL K) ix_list (pv 2) (pv 4) (fun _ _ => rfl)) (pe_ix (r := rIxL K) ix_list (pv 2) (pv 6) (fun _ _ => rfl))) (pe_ix (r := rIxT K) ix_tup (pe_ix (r := rIxL K) ix_list (pv 0) (pv 5) (fun _ _ => rfl)) (pe_int) (fun _ _ => rfl)) (nomark _)) (pe_one (pe_cmpR op_lt (pe_ix (r := rIxL K) ix_list (pv 2) (pv 6) (fun _ _ => rfl)) (pe_ix (r := rIxL K) ix_list (pv 1) (pv 6) (fun _ _ => rfl)) (nomark _)))))))))), fun b Q sb k => ?_⟩
  try dsimp only
  try dsimp only at k
  obtain ⟨hok, lg, lt, hc, hp⟩ := hp
  have eT := iget_at (l := th) hc.1 (by omega)
  cases number with
  | none =>
    have hlf : atI (col n lf) c = some (some (iget th c)) := by
      rw [col_at hc.1 hc.2]
      exact congrArg some hp
    refine sq_if (c := true) (et_test (ev_op (ev_var rfl) (ev_non) (rv_isN (o := none)))) (fun h => ?_) fun h => by cases h
    exact goR k.fin (ev_andV (ev_op (ev_op (ev_var rfl) (ev_var rfl) (rv_ixL hlf)) (ev_non) (rv_notN (o := some (iget th c)))) fun _ => (ev_op (ev_op (ev_var rfl) (ev_var rfl) (rv_ixL eT)) (ev_op (ev_var rfl) (ev_var rfl) (rv_ixL hlf)) rv_eq)) (by simp)
  | some q =>
    obtain ⟨q0, q1, q2, q3, q4⟩ := hp
    have hm := hok.all _ (rp_mem q0 q1)
    have eL := iget_at (l := th) hm.2.2.1 (by have := hm.2.2.2.1; omega)
    have eH := iget_at (l := hg) hm.2.2.1 (by have := hm.2.2.2.1; omega)
    refine sq_no (et_test (ev_op (ev_var rfl) (ev_non) (rv_isN (o := some q)))) rfl ?_
    refine sq_no (et_or (et_not (et_B (ev_call q (ea_cons (ev_var rfl) ea_nil) trivial))) fun _ => (et_or (et_not (et_test (ev_chain (ev_int) (ev_var (P := I q) rfl) rv_le (fun _ => (ev_cb (ea_cons (ev_var rfl) ea_nil) rc_lenL)) (fun _ => rv_lt)))) fun _ => (et_test (ev_op (ev_op (ev_op (ev_var rfl) (ev_var (P := I q) rfl) (rv_ixL (rp_at q0 q1))) (ev_int) (rv_ixT rfl)) (ev_var rfl) rv_ne)))) ?_ ?_
    · simp [q0, q1, q2]
    refine sq_asg (P := I (rp rs q).2.1) (ev_op (ev_op (ev_var rfl) (ev_var (P := I q) rfl) (rv_ixL (rp_at q0 q1))) (ev_int) (rv_ixT rfl)) ?_
    refine goR k.fin (ev_andV (ev_op (ev_op (ev_op (ev_var rfl) (ev_var rfl) (rv_ixL eT)) (ev_op (ev_var rfl) (ev_var rfl) (rv_ixL eL)) rv_sub) (ev_op (ev_op (ev_var rfl) (ev_var (P := I q) rfl) (rv_ixL (rp_at q0 q1))) (ev_int) (rv_ixT rfl)) rv_eq) fun _ => (ev_op (ev_op (ev_var rfl) (ev_var rfl) (rv_ixL eL)) (ev_op (ev_var rfl) (ev_var rfl) (rv_ixL eH)) rv_lt)) ?_
    have e1 : decide (iget th c - iget th (rp rs q).2.1 = (rp rs q).2.2) = true := decide_eq_true q3
    have e2 : decide (iget th (rp rs q).2.1 < iget hg (rp rs q).2.1) = true := decide_eq_true q4
    rw [e1, e2]
    rfl

abbrev N_law_pulls : List PySem.Str := ["_law_ropes_here", "_law_high", "_law_then", "_law_limits_here", "_law_pulls_here", "_law_down", "_law_knot", "_law_now", "_law_turn"]
theorem sc_law_pulls : FnScope N_law_pulls ["_law_ropes_here", "_law_high", "_law_then", "_law_limits_here", "_law_pulls_here"] (defScope s__law_pulls) := ⟨rfl, rfl, rfl, by decide +kernel, rfl, by decide +kernel, by decide +kernel⟩
abbrev sp_law_pulls (K : PySem.W.Frag) : Sp := Spx (β := Unit) (fun a : Addr × Int × List Rope × List Int × List Int × (Int → Option Int) × Pulls => okRs a.2.1 a.2.2.1 ∧ (a.2.2.2.1.length : Int) = a.2.1 + 1 ∧ (a.2.2.2.2.1.length : Int) = a.2.1 + 1 ∧ okLP a.2.1 a.2.2.1 a.2.2.2.1 a.2.2.2.2.1 a.2.2.2.2.2.1 a.2.2.2.2.2.2) (fun a => [L Ro a.2.2.1, L I a.2.2.2.1, L I a.2.2.2.2.1, L Op (col a.2.1 a.2.2.2.2.2.1), At a.1]) (fun a => [(a.1, oD Op a.2.2.2.2.2.2)]) (fun _ _ => Bo true) (fun a _ => [(a.1, oD Op a.2.2.2.2.2.2)])
theorem ok_law_pulls (W : Wd K mg) : Fn Pg w K mg base 3 "_law_pulls" (sp_law_pulls K) [] := by
  obtain ⟨fd, F⟩ := W.says.def_ 51 (d := d__law_pulls) rfl
  refine ⟨_, fd, ["_law_ropes_here", "_law_high", "_law_then", "_law_limits_here", "_law_pulls_here"], [], fn_ok F sc_law_pulls (fun _ => rfl) (by decide) ?_, W.g 51 _ rfl, F.kp, FunD.bindsN F (fun _ _ _ _ _ _ us hl => match us, hl with | [_, _, _, _, _], _ => rfl), .nil⟩
  rintro cdv A outer s H E hr ⟨d, n, rs, hg, th, lf, pu⟩ hp
  try dsimp only at hp
  have hu : (cxOf CX0 Pg w K mg base N_law_pulls "_law_pulls" (defScope s__law_pulls) (He.fAd K d__law_pulls.at_) cdv A outer s H E).nox.A.units + 1 < cLine := hu_of hr
  have hu64 : (cxOf CX0 Pg w K mg base N_law_pulls "_law_pulls" (defScope s__law_pulls) (He.fAd K d__law_pulls.at_) cdv A outer s H E).nox.A.units + 64 < cLine := hu64_of hr
  refine ⟨_, (pss_cons (ps_setLc (i := 5) (own := [("_law_knot", 6)]) rfl sc_law_pulls.nd rfl rfl (sw_true rfl rfl rfl (by decide +kernel)) (pi_range2 (by rfl) (W.z 68 _ rfl) (pa_cons (pe_int) (pa_cons (pe_callB (r := rLenQ K) call_len_seq (by rfl) (W.z 60 _ rfl) PySem.boot_len (pa_cons (pv 1) pa_nil)) pa_nil))) (blkOk_by (own := [("_law_knot", 6)]) (N := N_law_pulls) (sc := defScope s__law_pulls) (by decide +kernel)) (fun _ _ _ _ _ => pg_name (i := 6) sc_law_pulls.nd rfl (by first | exact Or.inl rfl | exact Or.inr rfl)) (fun _ _ _ _ _ => pts_one (pt_cmpR op_lt (pe_ix (r := rIxL K) ix_list (pv 2) (pv 6) (fun _ _ => rfl)) (pe_ix (r := rIxL K) ix_list (pv 1) (pv 6) (fun _ _ => rfl)) (nomark _))) (fun _ _ _ _ _ => (pv 6)))
      (pss_cons (ps_if (PW.pt (pw_or (pt_not (pt_val (pe_callB (r := rIsi K) call_isi (by rfl) (W.z 59 _ rfl) (by decide +kernel) (pa_cons (pv 4) (pa_cons (pe_bltn (v := .ty "dict") (by rfl) (W.z 65 _ rfl) (by decide +kernel) rfl) pa_nil))))) (pw_or (pt_not (pt_val (pe_callB (r := rAll K) (cr_all rfl) (by rfl) (W.z 61 _ rfl) (by decide +kernel) (pa_cons (pe_lock (pe_lc (own := [("_law_knot", 6)]) rfl sc_law_pulls.nd (pi_keys (pv 4)) (blkOk_by (own := [("_law_knot", 6)]) (N := N_law_pulls) (sc := defScope s__law_pulls) (by decide +kernel)) (fun _ _ _ _ _ => pg_name (i := 6) sc_law_pulls.nd rfl (by first | exact Or.inl rfl | exact Or.inr rfl)) (fun _ _ _ _ _ => pts_nil) (fun _ _ _ _ _ => (pe_fn (ok_law_whole W) (hr.mono (by decide)) (by rfl) (pa_cons (pv 6) pa_nil))))) pa_nil)))) (pw_or1 (pt_cmpR (r := rNeD K) (op_neD hu64) (pe_callB (r := rSortedDI) (call_sortedDI rfl) (by rfl) (W.z 74 _ rfl) (by decide +kernel) (pa_cons (pv 4) pa_nil)) (pv 5) (nomark _)))))) (pss_one (ps_ret (pe_bl))) pss_nil)
      (pss_cons (ps_if (pt_not (pt_val (pe_callB (r := rAll K) (cr_all rfl) (by rfl) (W.z 61 _ rfl) (by decide +kernel) (pa_cons (pe_lc (own := [("_law_knot", 6)]) rfl sc_law_pulls.nd (pi_listK (K := K) (pv 5)) (blkOk_by (own := [("_law_knot", 6)]) (N := N_law_pulls) (sc := defScope s__law_pulls) (by decide +kernel)) (fun _ _ _ _ _ => pg_name (i := 6) sc_law_pulls.nd rfl (by first | exact Or.inl rfl | exact Or.inr rfl)) (fun _ _ _ _ _ => pts_nil) (fun _ _ _ _ _ => (pe_fn (ok_law_pull W) (hr.mono (by decide)) (by rfl) (pa_cons (pv 0) (pa_cons (pv 1) (pa_cons (pv 2) (pa_cons (pv 3) (pa_cons (pv 6) (pa_cons (pe_dget hu (pv 4) (pv 6) (fun _ _ => rfl)) pa_nil))))))))) pa_nil)))) (pss_one (ps_ret (pe_bl))) pss_nil)
      (pss_cons (ps_for PassesOwn.never rfl (pi_listK (K := K) (pv 5)) (pg_name (i := 6) sc_law_pulls.nd rfl (by first | exact Or.inl rfl | exact Or.inr rfl)) (pss_cons (ps_set (i := 7) sc_law_pulls.nd rfl (by first | exact Or.inl rfl | exact Or.inr rfl) (pv 6))
      (pss_cons (ps_for PassesOwn.never rfl (pi_range1 (by rfl) (W.z 68 _ rfl) (pa_cons (pe_callB (r := rLenQ K) call_len_seq (by rfl) (W.z 60 _ rfl) PySem.boot_len (pa_cons (pv 5) pa_nil)) pa_nil)) (pg_name (i := 8) sc_law_pulls.nd rfl (by first | exact Or.inl rfl | exact Or.inr rfl)) (pss_one (ps_set (i := 7) sc_law_pulls.nd rfl (by first | exact Or.inl rfl | exact Or.inr rfl) (pe_ifExp (pt_cmpR op_isN (pe_dget hu (pv 4) (pv 7) (fun _ _ => rfl)) (pe_non) (nomark _)) (pv 7) (pe_ix (r := rIxT K) ix_tup (pe_ix (r := rIxL K) ix_list (pv 0) (pe_dget hu (pv 4) (pv 7) (fun _ _ => rfl)) (fun _ _ => rfl)) (pe_int) (fun _ _ => rfl))))))
      (pss_one (ps_if (pt_cmpR op_notN (pe_dget hu (pv 4) (pv 7) (fun _ _ => rfl)) (pe_non) (nomark _)) (pss_one (ps_ret (pe_bl))) pss_nil)))))
      (pss_one (ps_ret (pe_bl))))))), fun b Q sb k => ?_⟩
  try dsimp only
  try dsimp only at k
  obtain ⟨hok, lg, lt, hpu⟩ := hp
  have n1 : 1 ≤ n := hok.n1
  have n8 : n ≤ 8 := hok.n8
  have hdl := ldown_len (n := n) hg th
  have eI : (I (hg.length : Int)) = I (n + 1) := congrArg I lg
  have hpl : pu.length ≤ 8 := by
    have := congrArg List.length hpu.keys
    rw [List.length_map] at this
    omega
  refine sq_asg (P := L I (ldown n hg th)) (ev_lcF I (fun c => decide (iget th c < iget hg c)) (fun z => [some (L Ro rs), some (L I hg), some (L I th), some (L Op (col n lf)), some (At d), none, some (I z), none, none]) (src_rng2 (lo := 1) (n := n + 1) (ea_cons (ev_int) (ea_cons (Ev.cast (ev_cb (ea_cons (ev_var rfl) ea_nil) rc_lenL) eI) ea_nil)) (by decide) (by decide) (by omega) (by omega)) (fun z _ => tg_name) (fun z hz O => (et_test (ev_op (ev_op (ev_var rfl) (ev_var rfl) (rv_ixL (iget_at (by have := (mem_rg.mp hz).1; omega) (by have := (mem_rg.mp hz).2; omega)))) (ev_op (ev_var rfl) (ev_var rfl) (rv_ixL (iget_at (by have := (mem_rg.mp hz).1; omega) (by have := (mem_rg.mp hz).2; omega)))) rv_lt))) (fun z hz hc O => (ev_var rfl)) (by rw [rg_length]; omega)) ?_
  refine sq_no (et_or (et_not (et_B (ev_cb (ea_cons (ev_var rfl) (ea_cons (ev_ty) ea_nil)) (rc_isi (c := true) (fun _ _ _ => ty_dicO (List.mem_cons_self ..)) (by decide +kernel))))) fun _ => (et_or (et_not (et_B (ev_cb (ea_cons (ev_lock fun b od vs lk => ev_lcA Bo (fun z => true) (fun z => [some (L Ro rs), some (L I hg), some (L I th), some (L Op (col n lf)), some (At d), some (L I (ldown n hg th)), some (I z), none, none]) (src_keys lk (ev_var rfl)) (fun z _ => tg_name) (fun z hz O => (ev_call z (ea_cons (ev_var rfl) ea_nil) trivial)) (by rw [List.length_map]; omega)) ea_nil) rc_all))) fun _ => (et_test (ev_op (ev_cb (ea_cons (ev_var rfl) ea_nil) (rc_sortedD (List.mem_cons_self ..) (by omega))) (ev_var rfl) rv_neL)))) ?_ ?_
  · rw [hpu.keys, srt_id (ldown_ord n hg th)]
    simp
  refine sq_no (et_not (et_B (ev_cb (ea_cons (ev_held fun b' hl => ev_lcA Bo (fun z => true) (fun z => [some (L Ro rs), some (L I hg), some (L I th), some (L Op (col n lf)), some (At d), some (L I (ldown n hg th)), some (I z), none, none]) (src_list (ev_var rfl)) (fun z _ => tg_name) (fun z hz O => (ev_call (n, rs, hg, th, lf, z, (dl pu z).getD none) (ea_cons (ev_var rfl) (ea_cons (ev_var rfl) (ea_cons (ev_var rfl) (ea_cons (ev_var rfl) (ea_cons (ev_var rfl) (ea_cons (ev_dgetH hl (ev_var rfl) (ev_var rfl) ?_) ea_nil)))))) ?_)) ?_) ea_nil) rc_all))) ?_ ?_
  · obtain ⟨x, hx, _⟩ := hpu.at hz
    rw [hx]
    rfl
  · obtain ⟨x, hx, hk⟩ := hpu.at hz
    have h := ldown_rng hz
    refine ⟨hok, lg, lt, ⟨?_, h.2⟩, ?_⟩
    · show 0 ≤ z
      omega
    · show okLPull rs hg th lf z ((dl pu z).getD none)
      rw [hx]
      exact hk
  · omega
  · simp
  refine sq_for (vs := [6]) (src_list (ev_var rfl)) (fun i => [some (L Ro rs), some (L I hg), some (L I th), some (L Op (col n lf)), some (At d), some (L I (ldown n hg th)), none, none, none]) (fun i => [(d, oD Op pu)]) (fun i z => [some (L Ro rs), some (L I hg), some (L I th), some (L Op (col n lf)), some (At d), some (L I (ldown n hg th)), some (I z), none, none]) (.yes rfl (.yes rfl (.yes rfl (.yes rfl (.yes rfl (.yes rfl (.no (.no (.no .nil))))))))) rfl (fun i z hz => tg_name) (fun b1 r1 i c hc => ?_) ?_
  · have hcd := List.mem_of_getElem? hc
    refine sq_asg (ev_var rfl) ?_
    refine sq_for (vs := [8]) (src_rng1 (ea_cons (ev_cb (ea_cons (ev_var rfl) ea_nil) rc_lenL) ea_nil) ?_ ?_) (fun i => [some (L Ro rs), some (L I hg), some (L I th), some (L Op (col n lf)), some (At d), some (L I (ldown n hg th)), none, some (I (wkn rs pu i c)), none]) (fun i => [(d, oD Op pu)]) (fun i z => [some (L Ro rs), some (L I hg), some (L I th), some (L Op (col n lf)), some (At d), some (L I (ldown n hg th)), none, some (I (wkn rs pu i c)), some (I z)]) (.yes rfl (.yes rfl (.yes rfl (.yes rfl (.yes rfl (.yes rfl (.no (.yes rfl (.no .nil))))))))) rfl (fun i z hz => tg_name) (fun b2 r2 t z hz => ?_) ?_
    · omega
    · omega
    · obtain ⟨x, hx, hk⟩ := hpu.at (hpu.steps hcd t)
      have e : wkn rs pu (t + 1) c = wk rs pu (wkn rs pu t c) := rfl
      rw [e]
      cases x with
      | none =>
        have e2 : wk rs pu (wkn rs pu t c) = wkn rs pu t c := by
          show (match dl pu (wkn rs pu t c) with | some (some k) => (rp rs k).2.1 | _ => wkn rs pu t c) = _
          rw [hx]
        rw [e2]
        exact go_asg (ev_if (R := I (wkn rs pu t c)) (et_test (ev_op (ev_dget (ev_var rfl) (ev_var rfl) (.own (List.mem_cons_self ..)) hx) (ev_non) (rv_isN (o := none)))) (fun _ => (ev_var rfl)) (fun h => by cases h)) (nx_pst (.yes rfl (.yes rfl (.yes rfl (.yes rfl (.yes rfl (.yes rfl (.no (.yes rfl (.no .nil))))))))))
      | some q =>
        obtain ⟨q0, q1, q2, q3, q4⟩ := hk
        have e2 : wk rs pu (wkn rs pu t c) = (rp rs q).2.1 := by
          show (match dl pu (wkn rs pu t c) with | some (some k) => (rp rs k).2.1 | _ => wkn rs pu t c) = _
          rw [hx]
        rw [e2]
        exact go_asg (ev_if (R := I (rp rs q).2.1) (et_test (ev_op (ev_dget (ev_var rfl) (ev_var rfl) (.own (List.mem_cons_self ..)) hx) (ev_non) (rv_isN (o := some q)))) (fun h => by cases h) (fun _ => (ev_op (ev_op (ev_var rfl) (Ev.cast (P1 := I q) (ev_dget (ev_var rfl) (ev_var rfl) (.own (List.mem_cons_self ..)) hx) rfl) (rv_ixL (rp_at q0 q1))) (ev_int) (rv_ixT rfl)))) (nx_pst (.yes rfl (.yes rfl (.yes rfl (.yes rfl (.yes rfl (.yes rfl (.no (.yes rfl (.no .nil))))))))))
    · rw [rg_length]
      have e0 : (((ldown n hg th).length : Int) - 0).toNat = (ldown n hg th).length := by omega
      rw [e0]
      exact go_no (et_test (ev_op (ev_dget (ev_var rfl) (ev_var rfl) (.own (List.mem_cons_self ..)) (hpu.fin c hcd)) (ev_non) (rv_notN (o := none)))) rfl (nx_pst (.yes rfl (.yes rfl (.yes rfl (.yes rfl (.yes rfl (.yes rfl (.no (.no (.no .nil))))))))))
  · exact goX () k (ev_bl) rfl rfl

abbrev N_law_stops : List PySem.Str := ["_law_ropes_here", "_law_dist_here", "_law_slips_here", "_law_stops_here", "_law_due", "_law_knot", "_law_knots_here", "_law_slip", "_law_number_here"]
theorem sc_law_stops : FnScope N_law_stops ["_law_ropes_here", "_law_dist_here", "_law_slips_here", "_law_stops_here"] (defScope s__law_stops) := ⟨rfl, rfl, rfl, by decide +kernel, rfl, by decide +kernel, by decide +kernel⟩
abbrev sp_law_stops (K : PySem.W.Frag) : Sp := Spx (β := Unit) (fun a : Addr × Int × List Rope × DF × Slips × Stops => okRs a.2.1 a.2.2.1 ∧ okSl a.2.1 a.2.2.2.2.1 ∧ a.2.2.2.2.1.length ≤ 8 ∧ okLS a.2.2.1 a.2.2.2.1 a.2.2.2.2.1 a.2.2.2.2.2) (fun a => [L Ro a.2.2.1, L (L Op) (tbl a.2.1 a.2.2.2.1), L PII a.2.2.2.2.1, At a.1]) (fun a => [(a.1, oD (L I) a.2.2.2.2.2)]) (fun _ _ => Bo true) (fun a _ => [(a.1, oD (L I) a.2.2.2.2.2)])
theorem ok_law_stops (W : Wd K mg) : Fn Pg w K mg base 3 "_law_stops" (sp_law_stops K) [] := by
  obtain ⟨fd, F⟩ := W.says.def_ 52 (d := d__law_stops) rfl
  refine ⟨_, fd, ["_law_ropes_here", "_law_dist_here", "_law_slips_here", "_law_stops_here"], [], fn_ok F sc_law_stops (fun _ => rfl) (by decide) ?_, W.g 52 _ rfl, F.kp, FunD.bindsN F (fun _ _ _ _ _ _ us hl => match us, hl with | [_, _, _, _], _ => rfl), .nil⟩
  rintro cdv A outer s H E hr ⟨d, n, rs, Df, sl, st⟩ hp
  try dsimp only at hp
  have hu : (cxOf CX0 Pg w K mg base N_law_stops "_law_stops" (defScope s__law_stops) (He.fAd K d__law_stops.at_) cdv A outer s H E).nox.A.units + 1 < cLine := hu_of hr
  have hu64 : (cxOf CX0 Pg w K mg base N_law_stops "_law_stops" (defScope s__law_stops) (He.fAd K d__law_stops.at_) cdv A outer s H E).nox.A.units + 64 < cLine := hu64_of hr
  refine ⟨_, (pss_cons (ps_if (PW.pt (pw_or (pt_not (pt_val (pe_callB (r := rIsi K) call_isi (by rfl) (W.z 59 _ rfl) (by decide +kernel) (pa_cons (pv 3) (pa_cons (pe_bltn (v := .ty "dict") (by rfl) (W.z 65 _ rfl) (by decide +kernel) rfl) pa_nil))))) (pw_or1 (pt_not (pt_val (pe_callB (r := rAll K) (cr_all rfl) (by rfl) (W.z 61 _ rfl) (by decide +kernel) (pa_cons (pe_lock (pe_lc (own := [("_law_knot", 5)]) rfl sc_law_stops.nd (pi_keys (pv 3)) (blkOk_by (own := [("_law_knot", 5)]) (N := N_law_stops) (sc := defScope s__law_stops) (by decide +kernel)) (fun _ _ _ _ _ => pg_name (i := 5) sc_law_stops.nd rfl (by first | exact Or.inl rfl | exact Or.inr rfl)) (fun _ _ _ _ _ => pts_nil) (fun _ _ _ _ _ => (pe_fn (ok_law_whole W) (hr.mono (by decide)) (by rfl) (pa_cons (pv 5) pa_nil))))) pa_nil))))))) (pss_one (ps_ret (pe_bl))) pss_nil)
      (pss_cons (ps_setLc (i := 4) (own := [("_law_slip", 7)]) rfl sc_law_stops.nd rfl rfl (sw_true rfl rfl rfl (by decide +kernel)) (pi_listK (K := K) (pv 2)) (blkOk_by (own := [("_law_slip", 7)]) (N := N_law_stops) (sc := defScope s__law_stops) (by decide +kernel)) (fun _ _ _ _ _ => pg_name (i := 7) sc_law_stops.nd rfl (by first | exact Or.inl rfl | exact Or.inr rfl)) (fun _ _ _ _ _ => pts_one (PW.pt (pw_and (pt_cmpR op_notN (pe_ix (r := rIxL K) ix_list (pe_ix (r := rIxL K) ix_list (pv 1) (pe_int) (fun _ _ => rfl)) (pe_ix (r := rIxT K) ix_tup (pv 7) (pe_int) (fun _ _ => rfl)) (fun _ _ => rfl)) (pe_non) (nomark _)) (pw_and1 (pt_cmpR op_lt (pe_ix (r := rIxT K) ix_tup (pv 7) (pe_int) (fun _ _ => rfl)) (pe_op op_sub (pe_int) (pe_ix (r := rIxL K) ix_list (pe_ix (r := rIxL K) ix_list (pv 1) (pe_int) (fun _ _ => rfl)) (pe_ix (r := rIxT K) ix_tup (pv 7) (pe_int) (fun _ _ => rfl)) (fun _ _ => rfl))) (nomark _)))))) (fun _ _ _ _ _ => (pe_ix (r := rIxT K) ix_tup (pv 7) (pe_int) (fun _ _ => rfl))))
      (pss_cons (ps_if (pt_cmpR (r := rNeD K) (op_neD hu64) (pe_callB (r := rSortedDI) (call_sortedDI rfl) (by rfl) (W.z 74 _ rfl) (by decide +kernel) (pa_cons (pv 3) pa_nil)) (pe_callB (r := rSorted K) cr_sorted (by rfl) (W.z 74 _ rfl) (by decide +kernel) (pa_cons (pv 4) pa_nil)) (nomark _)) (pss_one (ps_ret (pe_bl))) pss_nil)
      (pss_cons (ps_for PassesOwn.never rfl (pi_listK (K := K) (pv 4)) (pg_name (i := 5) sc_law_stops.nd rfl (by first | exact Or.inl rfl | exact Or.inr rfl)) (pss_cons (ps_set (i := 6) sc_law_stops.nd rfl (by first | exact Or.inl rfl | exact Or.inr rfl) (pe_fn (ok_law_knots W) (hr.mono (by decide)) (by rfl) (pa_cons (pv 0) (pa_cons (pe_dget hu (pv 3) (pv 5) (fun _ _ => rfl)) pa_nil))))
      (pss_cons (ps_if (PW.pt (pw_or (pt_cmpR (r := rEqD K) (op_eqD hu64) (pv 6) (pe_lst pa_nil) (nomark _)) (pw_or (pt_cmpR op_ne (pe_ix (r := rIxL K) ix_list (pv 6) (pe_int) (fun _ _ => rfl)) (pe_int) (nomark _)) (pw_or1 (pt_cmpR op_ne (pe_ix (r := rIxL K) ix_list (pv 6) (pe_un un_neg (pe_int)) (fun _ _ => rfl)) (pv 5) (nomark _)))))) (pss_one (ps_ret (pe_bl))) pss_nil)
      (pss_one (ps_if (pt_cmpR op_ne (pe_callB (r := rSum K) (cr_sum rfl) (by rfl) (W.z 73 _ rfl) (by decide +kernel) (pa_cons (pe_lc (own := [("_law_number_here", 8)]) rfl sc_law_stops.nd (pi_listK (K := K) (pe_dget hu (pv 3) (pv 5) (fun _ _ => rfl))) (blkOk_by (own := [("_law_number_here", 8)]) (N := N_law_stops) (sc := defScope s__law_stops) (by decide +kernel)) (fun _ _ _ _ _ => pg_name (i := 8) sc_law_stops.nd rfl (by first | exact Or.inl rfl | exact Or.inr rfl)) (fun _ _ _ _ _ => pts_nil) (fun _ _ _ _ _ => (pe_ix (r := rIxT K) ix_tup (pe_ix (r := rIxL K) ix_list (pv 0) (pv 8) (fun _ _ => rfl)) (pe_int) (fun _ _ => rfl)))) pa_nil)) (pe_ix (r := rIxL K) ix_list (pe_ix (r := rIxL K) ix_list (pv 1) (pe_int) (fun _ _ => rfl)) (pv 5) (fun _ _ => rfl)) (nomark _)) (pss_one (ps_ret (pe_bl))) pss_nil)))))
      (pss_one (ps_ret (pe_bl))))))), fun b Q sb k => ?_⟩
  try dsimp only
  try dsimp only at k
  obtain ⟨hok, hsl, h8, hst⟩ := hp
  have n1 : 1 ≤ n := hok.n1
  have n8 : n ≤ 8 := hok.n8
  have hrl := hok.len
  have hdl : (due Df sl).length ≤ 8 := by
    unfold due
    rw [List.length_map]
    exact Nat.le_trans (List.length_filter_le _ _) h8
  have hstl : st.length ≤ 8 := by
    have := congrArg List.length hst.keys
    rw [List.length_map] at this
    omega
  refine sq_no (et_or (et_not (et_B (ev_cb (ea_cons (ev_var rfl) (ea_cons (ev_ty) ea_nil)) (rc_isi (c := true) (fun _ _ _ => ty_dicO (List.mem_cons_self ..)) (by decide +kernel))))) fun _ => (et_not (et_B (ev_cb (ea_cons (ev_lock fun b od vs lk => ev_lcA Bo (fun z => true) (fun z => [some (L Ro rs), some (L (L Op) (tbl n Df)), some (L PII sl), some (At d), none, some (I z), none, none, none]) (src_keys lk (ev_var rfl)) (fun z _ => tg_name) (fun z hz O => (ev_call z (ea_cons (ev_var rfl) ea_nil) trivial)) (by rw [List.length_map]; omega)) ea_nil) rc_all)))) (by simp) ?_
  refine sq_asg (P := L I (due Df sl)) (ev_lc I (due1 Df) (fun z => z.1) (fun z => [some (L Ro rs), some (L (L Op) (tbl n Df)), some (L PII sl), some (At d), none, none, none, some (PII z), none]) (src_list (ev_var rfl)) (fun z _ => tg_name) (fun z hz O => et_and (et_test (ev_op (ev_op (ev_op (ev_var rfl) (ev_int) (rv_ixL (col_at (g := fun k => col n (Df k)) (Int.le_refl 0) (by omega)))) (ev_op (ev_var rfl) (ev_int) (rv_ixT rfl)) (rv_ixL (col_at (by have := (hsl.rng z hz).1; omega) (hsl.rng z hz).2))) (ev_non) rv_notN)) fun hc => (et_test (ev_op (ev_op (ev_var rfl) (ev_int) (rv_ixT rfl)) (ev_op (ev_int) (Ev.cast (ev_op (ev_op (ev_var rfl) (ev_int) (rv_ixL (col_at (g := fun k => col n (Df k)) (Int.le_refl 0) (by omega)))) (ev_op (ev_var rfl) (ev_int) (rv_ixT rfl)) (rv_ixL (col_at (by have := (hsl.rng z hz).1; omega) (hsl.rng z hz).2))) (op_I hc)) rv_sub) rv_lt))) (fun z hz hc O => (ev_op (ev_var rfl) (ev_int) (rv_ixT rfl))) (by omega)) ?_
  refine sq_no (et_test (ev_op (ev_cb (ea_cons (ev_var rfl) ea_nil) (rc_sortedD (List.mem_cons_self ..) (by omega))) (ev_cb (ea_cons (ev_var rfl) ea_nil) (rc_sorted (by omega))) rv_neL)) (by rw [hst.keys]; simp) ?_
  refine sq_for (vs := [5]) (src_list (ev_var rfl)) (fun i => [some (L Ro rs), some (L (L Op) (tbl n Df)), some (L PII sl), some (At d), some (L I (due Df sl)), none, none, none, none]) (fun i => [(d, oD (L I) st)]) (fun i z => [some (L Ro rs), some (L (L Op) (tbl n Df)), some (L PII sl), some (At d), some (L I (due Df sl)), some (I z), none, none, none]) (.yes rfl (.yes rfl (.yes rfl (.yes rfl (.yes rfl (.no (.no (.no (.no .nil))))))))) rfl (fun i z hz => tg_name) (fun b1 r1 i c hc => ?_) ?_
  · have hcd := List.mem_of_getElem? hc
    obtain ⟨ch, hch⟩ := Option.isSome_iff_exists.mp (dl_keys (kvs := st) (k := c) (by rw [hst.keys]; exact hcd))
    obtain ⟨k1, k2, k3⟩ := hst.ok _ (dl_mem hch)
    have hcr : 1 ≤ c ∧ c ≤ n := by
      obtain ⟨y, hy, e⟩ := List.mem_map.mp hcd
      rw [← e]
      exact hsl.rng y (List.mem_filter.mp hy).1
    unfold ld at k2
    rw [Bool.and_eq_true, decide_eq_true_eq, decide_eq_true_eq] at k2
    have hne := kn_ne (rs := rs) k1.ne
    have eD : atI (col n (Df 0)) c = some (some (sm rs ch)) := by
      rw [col_at (by omega) hcr.2]
      exact congrArg some k3
    refine sq_asg (P := L I (kn rs ch)) (ev_call (rs, ch) (ea_cons (ev_var rfl) (ea_cons (ev_dget (ev_var rfl) (ev_var rfl) (.own (List.mem_cons_self ..)) hch) ea_nil)) ⟨k1, hrl⟩) ?_
    refine sq_no (et_or (et_test (ev_op (ev_var rfl) (ev_lst I [] ea_nil) rv_eqL)) fun _ => (et_or (et_test (ev_op (ev_op (ev_var rfl) (ev_int) (rv_ixL (atI_head hne))) (ev_int) rv_ne)) fun _ => (et_test (ev_op (ev_op (ev_var rfl) (ev_neg (ev_int)) (rv_ixL (atI_lastD hne))) (ev_var rfl) rv_ne)))) ?_ ?_
    · rw [k2.1, k2.2]
      simp [hne]
    refine go_no (et_test (ev_op (ev_cb (ea_cons (ev_lcA I (fun z => (rp rs z).2.2) (fun z => [some (L Ro rs), some (L (L Op) (tbl n Df)), some (L PII sl), some (At d), some (L I (due Df sl)), some (I c), some (L I (kn rs ch)), none, some (I z)]) (src_list (ev_dget (ev_var rfl) (ev_var rfl) (.own (List.mem_cons_self ..)) hch)) (fun z _ => tg_name) (fun z hz O => (ev_op (ev_op (ev_var rfl) (ev_var rfl) (rv_ixL (rp_at (k1.rng z hz).1 (k1.rng z hz).2))) (ev_int) (rv_ixT rfl))) (by have : ch.length ≤ 1000 := k1.len; omega)) ea_nil) rc_sum) (Ev.cast (P1 := I (sm rs ch)) (ev_op (ev_op (ev_var rfl) (ev_int) (rv_ixL (col_at (g := fun k => col n (Df k)) (Int.le_refl 0) (by omega)))) (ev_var rfl) (rv_ixL eD)) rfl) rv_ne)) ?_ (nx_pst (.yes rfl (.yes rfl (.yes rfl (.yes rfl (.yes rfl (.no (.no (.no (.no .nil))))))))))
    show (!decide (sm rs ch = sm rs ch)) = false
    simp
  · exact goX () k (ev_bl) rfl rfl

abbrev N_law_fall : List PySem.Str := ["_law_ropes_here", "_law_dist_here", "_law_high", "_law_slips_here", "_law_thing", "_law_many", "_law_limits_here"]
theorem sc_law_fall : FnScope N_law_fall ["_law_ropes_here", "_law_dist_here", "_law_high", "_law_slips_here", "_law_thing"] (defScope s__law_fall) := ⟨rfl, rfl, rfl, by decide +kernel, rfl, by decide +kernel, by decide +kernel⟩
abbrev sp_law_fall (K : PySem.W.Frag) : Sp := Spx (β := Unit) (fun a : Addr × Addr × Int × List Rope × DF × List Int × Slips × List Int × Pulls × Stops => okLF a.2.2.1 a.2.2.2.1 a.2.2.2.2.1 a.2.2.2.2.2.1 a.2.2.2.2.2.2.1 a.2.2.2.2.2.2.2.1 a.2.2.2.2.2.2.2.2.1 a.2.2.2.2.2.2.2.2.2) (fun a => [L Ro a.2.2.2.1, L (L Op) (tbl a.2.2.1 a.2.2.2.2.1), L I a.2.2.2.2.2.1, L PII a.2.2.2.2.2.2.1, Tp [L I a.2.2.2.2.2.2.2.1, At a.1, At a.2.1]]) (fun a => [(a.2.1, oD (L I) a.2.2.2.2.2.2.2.2.2), (a.1, oD Op a.2.2.2.2.2.2.2.2.1)]) (fun _ _ => Bo true) (fun a _ => [(a.2.1, oD (L I) a.2.2.2.2.2.2.2.2.2), (a.1, oD Op a.2.2.2.2.2.2.2.2.1)])
theorem ok_law_fall (W : Wd K mg) : Fn Pg w K mg base 4 "_law_fall" (sp_law_fall K) [] := by
  obtain ⟨fd, F⟩ := W.says.def_ 53 (d := d__law_fall) rfl
  refine ⟨_, fd, ["_law_ropes_here", "_law_dist_here", "_law_high", "_law_slips_here", "_law_thing"], [], fn_ok F sc_law_fall (fun _ => rfl) (by decide) ?_, W.g 53 _ rfl, F.kp, FunD.bindsN F (fun _ _ _ _ _ _ us hl => match us, hl with | [_, _, _, _, _], _ => rfl), .nil⟩
  rintro cdv A outer s H E hr ⟨dp, ds, n, rs, Df, hg, sl, hs, pu, st⟩ hp
  try dsimp only at hp
  have hu64 : (cxOf CX0 Pg w K mg base N_law_fall "_law_fall" (defScope s__law_fall) (He.fAd K d__law_fall.at_) cdv A outer s H E).nox.A.units + 64 < cLine := hu64_of hr
  refine ⟨_, (pss_cons (ps_set (i := 5) sc_law_fall.nd rfl (by first | exact Or.inl rfl | exact Or.inr rfl) (pe_op op_sub (pe_callB (r := rLenQ K) call_len_seq (by rfl) (W.z 60 _ rfl) PySem.boot_len (pa_cons (pv 2) pa_nil)) (pe_int)))
      (pss_cons (ps_if (PW.pt (pw_or (pt_not (pt_val (pe_callB (r := rIsi K) call_isi (by rfl) (W.z 59 _ rfl) (by decide +kernel) (pa_cons (pv 4) (pa_cons (pe_bltn (v := .ty "tuple") (by rfl) (W.z 64 _ rfl) (by decide +kernel) rfl) pa_nil))))) (pw_or (pt_cmpR op_ne (pe_callB (r := rLenQ K) call_len_seq (by rfl) (W.z 60 _ rfl) PySem.boot_len (pa_cons (pv 4) pa_nil)) (pe_int) (nomark _)) (pw_or1 (pt_not (pt_val (pe_fn (ok_law_stand W) (hr.mono (by decide)) (by rfl) (pa_cons (pv 0) (pa_cons (pv 5) (pa_cons (pe_ix (r := rIxT K) ix_tup (pv 4) (pe_int) (fun _ _ => rfl)) pa_nil)))))))))) (pss_one (ps_ret (pe_bl))) pss_nil)
      (pss_cons (ps_set (i := 6) sc_law_fall.nd rfl (by first | exact Or.inl rfl | exact Or.inr rfl) (pe_fn (ok_law_limits W) (hr.mono (by decide)) (by rfl) (pa_cons (pv 1) (pa_cons (pv 3) pa_nil))))
      (pss_cons (ps_if (PW.pt (pw_or (pt_cmpR (r := rNeD K) (op_neD hu64) (pe_ix (r := rIxT K) ix_tup (pv 4) (pe_int) (fun _ _ => rfl)) (pe_slice (r := rSlL K) sl_list (pe_fn (ok_law_fallen W) (hr.mono (by decide)) (by rfl) (pa_cons (pv 1) (pa_cons (pv 2) (pa_cons (pv 6) pa_nil)))) (po_some (pe_int)) po_none) (nomark _)) (pw_or1 (pt_not (pt_val (pe_fn (ok_law_stops W) (hr.mono (by decide)) (by rfl) (pa_cons (pv 0) (pa_cons (pv 1) (pa_cons (pv 3) (pa_cons (pe_ix (r := rIxT K) ix_tup (pv 4) (pe_int) (fun _ _ => rfl)) pa_nil)))))))))) (pss_one (ps_ret (pe_bl))) pss_nil)
      (pss_one (ps_ret (pe_fn (ok_law_pulls W) (hr.mono (by decide)) (by rfl) (pa_cons (pv 0) (pa_cons (pv 2) (pa_cons (pe_op op_cat (pe_lst (pa_cons (pe_int) pa_nil)) (pe_ix (r := rIxT K) ix_tup (pv 4) (pe_int) (fun _ _ => rfl))) (pa_cons (pv 6) (pa_cons (pe_ix (r := rIxT K) ix_tup (pv 4) (pe_int) (fun _ _ => rfl)) pa_nil)))))))))))), fun b Q sb k => ?_⟩
  try dsimp only
  try dsimp only at k
  have n1 : 1 ≤ n := hp.ok.n1
  have n8 : n ≤ 8 := hp.ok.n8
  have lg := hp.len
  have lh := hp.hl
  refine sq_asg (P := I n) (Ev.cast (ev_op (ev_cb (ea_cons (ev_var rfl) ea_nil) rc_lenL) (ev_int) rv_sub) (congrArg I (by omega))) ?_
  refine sq_no (et_or (et_not (et_B (ev_cb (ea_cons (ev_var rfl) (ea_cons (ev_ty) ea_nil)) (rc_isi (c := true) (fun _ _ _ => ty_tup) (by decide +kernel))))) fun _ => (et_or (et_test (ev_op (ev_cb (ea_cons (ev_var rfl) ea_nil) rc_lenT) (ev_int) rv_ne)) fun _ => (et_not (et_B (ev_call (n, rs, hs) (ea_cons (ev_var rfl) (ea_cons (ev_var rfl) (ea_cons (ev_op (ev_var rfl) (ev_int) (rv_ixT rfl)) ea_nil))) ⟨hp.ok, hp.lets, lh⟩))))) rfl ?_
  refine sq_asg (ev_call (n, Df, sl) (ea_cons (ev_var rfl) (ea_cons (ev_var rfl) ea_nil)) ⟨by show 0 ≤ n; omega, n8, hp.ks⟩) ?_
  refine sq_no (et_or (et_test (ev_op (ev_op (ev_var rfl) (ev_int) (rv_ixT rfl)) (ev_sl1 (ev_call (n, Df, hg, dl (lims Df sl)) (ea_cons (ev_var rfl) (ea_cons (ev_var rfl) (ea_cons (ev_var rfl) ea_nil))) ⟨by show 0 ≤ n; omega, n8, lg, hp.self⟩)) rv_neL)) fun _ => (et_not (et_B (ev_unit (evx_call (R := [(dp, oD Op pu)]) (ds, n, rs, Df, sl, st) (ea_cons (ev_var rfl) (ea_cons (ev_var rfl) (ea_cons (ev_var rfl) (ea_cons (ev_op (ev_var rfl) (ev_int) (rv_ixT rfl)) ea_nil)))) ⟨hp.ok, hp.ks, hp.l8, hp.st⟩))))) ?_ ?_
  · have e : decide (hs = (col n (lfall n Df hg (dl (lims Df sl)))).drop 1) = true := decide_eq_true (drop_col lh hp.eq)
    rw [e]
    rfl
  refine go_perm (O' := [(dp, oD Op pu), (ds, oD (L I) st)]) (List.Perm.swap _ _ _) ?_
  exact goX () k (Ev.perm (ev_unit (evx_call (R := [(ds, oD (L I) st)]) (dp, n, rs, hg, 0 :: hs, dl (lims Df sl), pu) (ea_cons (ev_var rfl) (ea_cons (ev_var rfl) (ea_cons (ev_op (ev_lst I [_] (ea_cons (ev_int) ea_nil)) (ev_op (ev_var rfl) (ev_int) (rv_ixT rfl)) (rv_cat (by simp; omega))) (ea_cons (ev_var rfl) (ea_cons (ev_op (ev_var rfl) (ev_int) (rv_ixT rfl)) ea_nil))))) ⟨hp.ok, lg, by show ((0 :: hs).length : Int) = n + 1; rw [List.length_cons]; omega, hp.pu⟩)) (List.Perm.swap _ _ _)) rfl rfl

abbrev N_law_rise : List PySem.Str := ["_law_ropes_here", "_law_dist_here", "_law_high", "_law_lifts", "_law_thing", "_law_over", "_law_back", "_law_slips_here", "_law_stops_here", "_law_knot", "_law_paper", "_law_rope", "_law_at", "_law_lift", "_law_row", "_law_one"]
theorem sc_law_rise : FnScope N_law_rise ["_law_ropes_here", "_law_dist_here", "_law_high", "_law_lifts", "_law_thing"] (defScope s__law_rise) := ⟨rfl, rfl, rfl, by decide +kernel, rfl, by decide +kernel, by decide +kernel⟩
abbrev sp_law_rise (K : PySem.W.Frag) : Sp := Spx (β := Unit) (fun a : Addr × Addr × Addr × Int × List Rope × DF × List Int × Slips × List Int × Pulls × Stops => okRs a.2.2.2.1 a.2.2.2.2.1 ∧ (a.2.2.2.2.2.2.1.length : Int) = a.2.2.2.1 + 1 ∧ a.2.2.2.2.2.2.2.1.length ≤ 8 ∧ a.2.2.2.2.2.2.2.2.1.length ≤ 8 ∧ (a.2.2.2.2.2.2.2.2.2.2.map (·.1)).Nodup ∧ a.2.2.2.2.2.2.2.2.2.2.length ≤ 8 ∧ okLF a.2.2.2.1 (turned a.2.2.2.2.1) (fun i j => a.2.2.2.2.2.1 j i) (neg a.2.2.2.2.2.2.1) (negS a.2.2.2.2.2.2.2.1) (neg a.2.2.2.2.2.2.2.2.1) a.2.2.2.2.2.2.2.2.2.1 (revS a.2.2.2.2.2.2.2.2.2.2)) (fun a => [L Ro a.2.2.2.2.1, L (L Op) (tbl a.2.2.2.1 a.2.2.2.2.2.1), L I a.2.2.2.2.2.2.1, L PII a.2.2.2.2.2.2.2.1, Tp [At a.1, At a.2.1, At a.2.2.1]]) (fun a => [(a.2.2.1, oD (L I) a.2.2.2.2.2.2.2.2.2.2), (a.2.1, oD Op a.2.2.2.2.2.2.2.2.2.1), (a.1, oL I a.2.2.2.2.2.2.2.2.1)]) (fun _ _ => Bo true) (fun a _ => [(a.2.2.1, oD (L I) a.2.2.2.2.2.2.2.2.2.2), (a.2.1, oD Op a.2.2.2.2.2.2.2.2.2.1), (a.1, oL I a.2.2.2.2.2.2.2.2.1)])
theorem ok_law_rise (W : Wd K mg) : Fn Pg w K mg base 5 "_law_rise" (sp_law_rise K) [] := by
  obtain ⟨fd, F⟩ := W.says.def_ 54 (d := d__law_rise) rfl
  refine ⟨_, fd, ["_law_ropes_here", "_law_dist_here", "_law_high", "_law_lifts", "_law_thing"], [], fn_ok F sc_law_rise (fun _ => rfl) (by decide) ?_, W.g 54 _ rfl, F.kp, FunD.bindsN F (fun _ _ _ _ _ _ us hl => match us, hl with | [_, _, _, _, _], _ => rfl), .nil⟩
  rintro cdv A outer s H E hr ⟨lh, dp, ds, n, rs, Df, hg, lifts, hs, pu, st⟩ hp
  try dsimp only at hp
  have hu : (cxOf CX0 Pg w K mg base N_law_rise "_law_rise" (defScope s__law_rise) (He.fAd K d__law_rise.at_) cdv A outer s H E).nox.A.units + 1 < cLine := hu_of hr
  refine ⟨_, (pss_cons (ps_if (PW.pt (pw_or (pt_not (pt_val (pe_callB (r := rIsi K) call_isi (by rfl) (W.z 59 _ rfl) (by decide +kernel) (pa_cons (pv 4) (pa_cons (pe_bltn (v := .ty "tuple") (by rfl) (W.z 64 _ rfl) (by decide +kernel) rfl) pa_nil))))) (pw_or1 (pt_cmpR op_ne (pe_callB (r := rLenQ K) call_len_seq (by rfl) (W.z 60 _ rfl) PySem.boot_len (pa_cons (pv 4) pa_nil)) (pe_int) (nomark _))))) (pss_one (ps_ret (pe_bl))) pss_nil)
      (pss_cons (ps_if (PW.pt (pw_or (pt_not (pt_val (pe_callB (r := rIsi K) call_isi (by rfl) (W.z 59 _ rfl) (by decide +kernel) (pa_cons (pe_ix (r := rIxT K) ix_tup (pv 4) (pe_int) (fun _ _ => rfl)) (pa_cons (pe_bltn (v := .ty "list") (by rfl) (W.z 63 _ rfl) (by decide +kernel) rfl) pa_nil))))) (pw_or1 (pt_not (pt_val (pe_callB (r := rAll K) (cr_all rfl) (by rfl) (W.z 61 _ rfl) (by decide +kernel) (pa_cons (pe_lc (own := [("_law_one", 15)]) rfl sc_law_rise.nd (pi_listK (K := K) (pe_ix (r := rIxT K) ix_tup (pv 4) (pe_int) (fun _ _ => rfl))) (blkOk_by (own := [("_law_one", 15)]) (N := N_law_rise) (sc := defScope s__law_rise) (by decide +kernel)) (fun _ _ _ _ _ => pg_name (i := 15) sc_law_rise.nd rfl (by first | exact Or.inl rfl | exact Or.inr rfl)) (fun _ _ _ _ _ => pts_nil) (fun _ _ _ _ _ => (pe_fn (ok_law_whole W) (hr.mono (by decide)) (by rfl) (pa_cons (pv 15) pa_nil)))) pa_nil))))))) (pss_one (ps_ret (pe_bl))) pss_nil)
      (pss_cons (ps_if (PW.pt (pw_or (pt_not (pt_val (pe_callB (r := rIsi K) call_isi (by rfl) (W.z 59 _ rfl) (by decide +kernel) (pa_cons (pe_ix (r := rIxT K) ix_tup (pv 4) (pe_int) (fun _ _ => rfl)) (pa_cons (pe_bltn (v := .ty "dict") (by rfl) (W.z 65 _ rfl) (by decide +kernel) rfl) pa_nil))))) (pw_or1 (pt_not (pt_val (pe_callB (r := rAll K) (cr_all rfl) (by rfl) (W.z 61 _ rfl) (by decide +kernel) (pa_cons (pe_lock (pe_lc (own := [("_law_knot", 9)]) rfl sc_law_rise.nd (pi_keys (pe_ix (r := rIxT K) ix_tup (pv 4) (pe_int) (fun _ _ => rfl))) (blkOk_by (own := [("_law_knot", 9)]) (N := N_law_rise) (sc := defScope s__law_rise) (by decide +kernel)) (fun _ _ _ _ _ => pg_name (i := 9) sc_law_rise.nd rfl (by first | exact Or.inl rfl | exact Or.inr rfl)) (fun _ _ _ _ _ => pts_nil) (fun _ _ _ _ _ => (pe_callB (r := rIsi K) call_isi (by rfl) (W.z 59 _ rfl) (by decide +kernel) (pa_cons (pe_dget hu (pe_ix (r := rIxT K) ix_tup (pv 4) (pe_int) (fun _ _ => rfl)) (pv 9) (fun _ _ => rfl)) (pa_cons (pe_bltn (v := .ty "list") (by rfl) (W.z 63 _ rfl) (by decide +kernel) rfl) pa_nil)))))) pa_nil))))))) (pss_one (ps_ret (pe_bl))) pss_nil)
      (pss_cons (ps_setLc (i := 5) (own := [("_law_rope", 11)]) rfl sc_law_rise.nd rfl rfl (sw_true rfl rfl rfl (by decide +kernel)) (pi_listK (K := K) (pv 0)) (blkOk_by (own := [("_law_rope", 11)]) (N := N_law_rise) (sc := defScope s__law_rise) (by decide +kernel)) (fun _ _ _ _ _ => pg_name (i := 11) sc_law_rise.nd rfl (by first | exact Or.inl rfl | exact Or.inr rfl)) (fun _ _ _ _ _ => pts_nil) (fun _ _ _ _ _ => (pe_tup (pa_cons (pe_ix (r := rIxT K) ix_tup (pv 11) (pe_int) (fun _ _ => rfl)) (pa_cons (pe_ix (r := rIxT K) ix_tup (pv 11) (pe_int) (fun _ _ => rfl)) (pa_cons (pe_ix (r := rIxT K) ix_tup (pv 11) (pe_int) (fun _ _ => rfl)) pa_nil))))))
      (pss_cons (ps_setLc (i := 6) (own := [("_law_at", 12)]) rfl sc_law_rise.nd rfl rfl (sw_true rfl rfl rfl (by decide +kernel)) (pi_range1 (by rfl) (W.z 68 _ rfl) (pa_cons (pe_callB (r := rLenQ K) call_len_seq (by rfl) (W.z 60 _ rfl) PySem.boot_len (pa_cons (pv 1) pa_nil)) pa_nil)) (blkOk_by (own := [("_law_at", 12)]) (N := N_law_rise) (sc := defScope s__law_rise) (by decide +kernel)) (fun _ _ _ _ _ => pg_name (i := 12) sc_law_rise.nd rfl (by first | exact Or.inl rfl | exact Or.inr rfl)) (fun _ _ _ _ _ => pts_nil) (fun _ _ _ _ _ => (pe_lc (own := [("_law_row", 14)]) rfl sc_law_rise.nd (pi_listK (K := K) (pv 1)) (blkOk_by (own := [("_law_row", 14)]) (N := N_law_rise) (sc := _) (by kernel_rfl)) (fun _ _ _ _ _ => pg_name (i := 14) sc_law_rise.nd rfl (by first | exact Or.inl rfl | exact Or.inr rfl)) (fun _ _ _ _ _ => pts_nil) (fun _ _ _ _ _ => (pe_ix (r := rIxL K) ix_list (pv 14) (pv 12) (fun _ _ => rfl))))))
      (pss_cons (ps_setLc (i := 7) (own := [("_law_lift", 13)]) rfl sc_law_rise.nd rfl rfl (sw_true rfl rfl rfl (by decide +kernel)) (pi_listK (K := K) (pv 3)) (blkOk_by (own := [("_law_lift", 13)]) (N := N_law_rise) (sc := defScope s__law_rise) (by decide +kernel)) (fun _ _ _ _ _ => pg_name (i := 13) sc_law_rise.nd rfl (by first | exact Or.inl rfl | exact Or.inr rfl)) (fun _ _ _ _ _ => pts_nil) (fun _ _ _ _ _ => (pe_tup (pa_cons (pe_ix (r := rIxT K) ix_tup (pv 13) (pe_int) (fun _ _ => rfl)) (pa_cons (pe_op op_sub (pe_int) (pe_ix (r := rIxT K) ix_tup (pv 13) (pe_int) (fun _ _ => rfl))) pa_nil)))))
      (pss_cons (ps_set (i := 8) sc_law_rise.nd rfl (by first | exact Or.inl rfl | exact Or.inr rfl) (pe_dnewK))
      (pss_cons (ps_lock (ps_for PassesOwn.never rfl (pi_keys (pe_ix (r := rIxT K) ix_tup (pv 4) (pe_int) (fun _ _ => rfl))) (pg_name (i := 9) sc_law_rise.nd rfl (by first | exact Or.inl rfl | exact Or.inr rfl)) (pss_one (ps_dput hu (pv 8) (pv 9) (pe_revLK (K := K) (pe_dget hu (pe_ix (r := rIxT K) ix_tup (pv 4) (pe_int) (fun _ _ => rfl)) (pv 9) (fun _ _ => rfl))) rfl))))
      (pss_cons (ps_set (i := 10) sc_law_rise.nd rfl (by first | exact Or.inl rfl | exact Or.inr rfl) (pe_tup (pa_cons (pe_lc (own := [("_law_one", 15)]) rfl sc_law_rise.nd (pi_listK (K := K) (pe_ix (r := rIxT K) ix_tup (pv 4) (pe_int) (fun _ _ => rfl))) (blkOk_by (own := [("_law_one", 15)]) (N := N_law_rise) (sc := defScope s__law_rise) (by decide +kernel)) (fun _ _ _ _ _ => pg_name (i := 15) sc_law_rise.nd rfl (by first | exact Or.inl rfl | exact Or.inr rfl)) (fun _ _ _ _ _ => pts_nil) (fun _ _ _ _ _ => (pe_op op_sub (pe_int) (pv 15)))) (pa_cons (pe_ix (r := rIxT K) ix_tup (pv 4) (pe_int) (fun _ _ => rfl)) (pa_cons (pv 8) pa_nil)))))
      (pss_one (ps_ret (pe_fn (ok_law_fall W) (hr.mono (by decide)) (by rfl) (pa_cons (pv 5) (pa_cons (pv 6) (pa_cons (pe_lc (own := [("_law_one", 15)]) rfl sc_law_rise.nd (pi_listK (K := K) (pv 2)) (blkOk_by (own := [("_law_one", 15)]) (N := N_law_rise) (sc := defScope s__law_rise) (by decide +kernel)) (fun _ _ _ _ _ => pg_name (i := 15) sc_law_rise.nd rfl (by first | exact Or.inl rfl | exact Or.inr rfl)) (fun _ _ _ _ _ => pts_nil) (fun _ _ _ _ _ => (pe_op op_sub (pe_int) (pv 15)))) (pa_cons (pv 7) (pa_cons (pv 10) pa_nil))))))))))))))))), fun b Q sb k => ?_⟩
  try dsimp only
  try dsimp only at k
  obtain ⟨hok, lg, ll, lhs, hnd, lst, hF⟩ := hp
  have n1 : 1 ≤ n := hok.n1
  have n8 : n ≤ 8 := hok.n8
  have hrl := hok.len
  have htl := tbl_len (n := n) Df
  have hrg := rg_length 0 (n + 1)
  have eI : (I ((tbl n Df).length : Int)) = I (n + 1) := congrArg I (by omega)
  have pl : [(ds, oD (L I) st), (dp, oD Op pu), (lh, oL I hs)].Perm [(lh, oL I hs), (ds, oD (L I) st), (dp, oD Op pu)] := (perm3 _ _ _).symm
  refine sq_no (et_or (et_not (et_B (ev_cb (ea_cons (ev_var rfl) (ea_cons (ev_ty) ea_nil)) (rc_isi (c := true) (fun _ _ _ => ty_tup) (by decide +kernel))))) fun _ => (et_test (ev_op (ev_cb (ea_cons (ev_var rfl) ea_nil) rc_lenT) (ev_int) rv_ne))) rfl ?_
  refine sq_no (et_or (et_not (et_B (ev_cb (ea_cons (ev_op (ev_var rfl) (ev_int) (rv_ixT rfl)) (ea_cons (ev_ty) ea_nil)) (rc_isi (c := true) (fun _ _ _ => ty_lstO (a := lh) (f := I) (xs := hs) (by simp)) (by decide +kernel))))) fun _ => (et_not (et_B (ev_cb (ea_cons (ev_heldM pl fun b' hl => ev_lcA Bo (fun z => true) (fun z => [some (L Ro rs), some (L (L Op) (tbl n Df)), some (L I hg), some (L PII lifts), some (Tp [At lh, At dp, At ds]), none, none, none, none, none, none, none, none, none, none, some (I z)]) (src_held hl (ev_op (ev_var rfl) (ev_int) (rv_ixT rfl))) (fun z _ => tg_name) (fun z hz O => (ev_call z (ea_cons (ev_var rfl) ea_nil) trivial)) (by omega)) ea_nil) rc_all)))) (by simp) ?_
  refine sq_no (et_or (et_not (et_B (ev_cb (ea_cons (ev_op (ev_var rfl) (ev_int) (rv_ixT rfl)) (ea_cons (ev_ty) ea_nil)) (rc_isi (c := true) (fun _ _ _ => ty_dicO (List.mem_cons_self ..)) (by decide +kernel))))) fun _ => (et_not (et_B (ev_cb (ea_cons (ev_lock fun b od vs lk => ev_lcA Bo (fun z => true) (fun z => [some (L Ro rs), some (L (L Op) (tbl n Df)), some (L I hg), some (L PII lifts), some (Tp [At lh, At dp, At ds]), none, none, none, none, some (I z), none, none, none, none, none, none]) (src_keys lk (ev_op (ev_var rfl) (ev_int) (rv_ixT rfl))) (fun z _ => tg_name) (fun z hz O => (ev_cb (ea_cons (ev_dgetL (x := (dl st z).getD []) lk (ev_op (ev_var rfl) (ev_int) (rv_ixT rfl)) (ev_var rfl) ?_) (ea_cons (ev_ty) ea_nil)) (rc_isi (c := true) (fun _ _ _ => ty_lst) (by decide +kernel)))) ?_) ea_nil) rc_all)))) ?_ ?_
  · obtain ⟨x, hx⟩ := Option.isSome_iff_exists.mp (dl_keys hz)
    rw [hx]
    rfl
  · rw [List.length_map]
    omega
  · simp
  refine sq_asg (P := L Ro (turned rs)) (ev_lcA Ro turn (fun z => [some (L Ro rs), some (L (L Op) (tbl n Df)), some (L I hg), some (L PII lifts), some (Tp [At lh, At dp, At ds]), none, none, none, none, none, none, some (Ro z), none, none, none, none]) (src_list (ev_var rfl)) (fun z _ => tg_name) (fun z hz O => (ev_tup (ea_cons (ev_op (ev_var rfl) (ev_int) (rv_ixT rfl)) (ea_cons (ev_op (ev_var rfl) (ev_int) (rv_ixT rfl)) (ea_cons (ev_op (ev_var rfl) (ev_int) (rv_ixT rfl)) ea_nil))))) (by omega)) ?_
  refine sq_asg (P := L (L Op) (tbl n fun i j => Df j i)) (ev_lcA (L Op) (fun a => col n fun j => Df j a) (fun z => [some (L Ro rs), some (L (L Op) (tbl n Df)), some (L I hg), some (L PII lifts), some (Tp [At lh, At dp, At ds]), some (L Ro (turned rs)), none, none, none, none, none, none, some (I z), none, none, none]) (src_rng1 (n := n + 1) (ea_cons (Ev.cast (ev_cb (ea_cons (ev_var rfl) ea_nil) rc_lenL) eI) ea_nil) (by omega) (by omega)) (fun z _ => tg_name) (fun a ha O => ?_) (by omega)) ?_
  · have ha1 := mem_rg.mp ha
    have e : (tbl n Df).map (fun row => row.getD a.toNat none) = col n fun j => Df j a := by
      unfold tbl
      have : (col n fun k => col n (Df k)).map (fun row => row.getD a.toNat none) = col n fun k => (col n (Df k)).getD a.toNat none := by
        unfold col
        rw [List.map_map]
        rfl
      rw [this]
      exact col_congr fun j _ _ => col_getD none ha1.1 (by omega)
    refine Ev.cast (P := L Op ((tbl n Df).map fun row => row.getD a.toNat none)) ?_ (congrArg (fun l => L Op l) e)
    exact ev_lcA (ζ := List (Option Int)) Op (fun row : List (Option Int) => row.getD a.toNat none) (fun z => [some (L Ro rs), some (L (L Op) (tbl n Df)), some (L I hg), some (L PII lifts), some (Tp [At lh, At dp, At ds]), some (L Ro (turned rs)), none, none, none, none, none, none, some (I a), none, some (L Op z), none]) (src_list (ev_var rfl)) (fun z _ => tg_name) (fun row hrow O => (ev_op (ev_var rfl) (ev_var rfl) (rv_ixL (getD_at none ha1.1 (by
      obtain ⟨j, _, rfl⟩ := List.mem_map.mp hrow
      rw [col_len]
      omega))))) (by omega)
  refine sq_asg (P := L PII (negS lifts)) (ev_lcA PII (fun z => (z.1, 0 - z.2)) (fun z => [some (L Ro rs), some (L (L Op) (tbl n Df)), some (L I hg), some (L PII lifts), some (Tp [At lh, At dp, At ds]), some (L Ro (turned rs)), some (L (L Op) (tbl n fun i j => Df j i)), none, none, none, none, none, none, some (PII z), none, none]) (src_list (ev_var rfl)) (fun z _ => tg_name) (fun z hz O => (ev_tup (ea_cons (ev_op (ev_var rfl) (ev_int) (rv_ixT (f := fun P : HP => P) (x := I z.1) rfl)) (ea_cons (ev_op (ev_int) (ev_op (ev_var rfl) (ev_int) (rv_ixT (f := fun P : HP => P) (x := I z.2) rfl)) rv_sub) ea_nil)))) (by omega)) ?_
  refine sq_asgX (evx_dnew (L I)) fun dn => ?_
  refine go_perm (O' := [(ds, oD (L I) st), (dn, oD (L I) []), (dp, oD Op pu), (lh, oL I hs)]) (List.Perm.swap _ _ _) ?_
  refine sq_lock (Gn := [some (L Ro rs), some (L (L Op) (tbl n Df)), some (L I hg), some (L PII lifts), some (Tp [At lh, At dp, At ds]), some (L Ro (turned rs)), some (L (L Op) (tbl n fun i j => Df j i)), some (L PII (negS lifts)), some (At dn), none, none, none, none, none, none, none]) (On := [(dn, oD (L I) (revS st)), (dp, oD Op pu), (lh, oL I hs)]) ?_ fun b1 od vs lk D1 hn _ => ?_
  · refine go_perm (O' := [(dn, oD (L I) (revS st)), (dp, oD Op pu), (ds, oD (L I) st), (lh, oL I hs)]) (perm4 _ _ _ _) ?_
    refine sq_asg (P := Tp [L I (neg hs), At dp, At dn]) (ev_tup (ea_cons (ev_heldM (R := [(dn, oD (L I) (revS st)), (dp, oD Op pu), (ds, oD (L I) st)]) (l := lh) (o := oL I hs) (perm4' _ _ _ _) fun b' hl => ev_lcA I (fun z => 0 - z) (fun z => [some (L Ro rs), some (L (L Op) (tbl n Df)), some (L I hg), some (L PII lifts), some (Tp [At lh, At dp, At ds]), some (L Ro (turned rs)), some (L (L Op) (tbl n fun i j => Df j i)), some (L PII (negS lifts)), some (At dn), none, none, none, none, none, none, some (I z)]) (src_held hl (ev_op (ev_var rfl) (ev_int) (rv_ixT rfl))) (fun z _ => tg_name) (fun z hz O => (ev_op (ev_int) (ev_var rfl) rv_sub)) (by omega)) (ea_cons (ev_op (ev_var rfl) (ev_int) (rv_ixT rfl)) (ea_cons (ev_var rfl) ea_nil)))) ?_
    refine go_retX (P := fun _ : Unit => Bo true) (evx_call (R := [(ds, oD (L I) st), (lh, oL I hs)]) (dp, dn, n, turned rs, (fun i j => Df j i), neg hg, negS lifts, neg hs, pu, revS st) (ea_cons (ev_var rfl) (ea_cons (ev_var rfl) (ea_cons (ev_lcA I (fun z => 0 - z) (fun z => [some (L Ro rs), some (L (L Op) (tbl n Df)), some (L I hg), some (L PII lifts), some (Tp [At lh, At dp, At ds]), some (L Ro (turned rs)), some (L (L Op) (tbl n fun i j => Df j i)), some (L PII (negS lifts)), some (At dn), none, some (Tp [L I (neg hs), At dp, At dn]), none, none, none, none, some (I z)]) (src_list (ev_var rfl)) (fun z _ => tg_name) (fun z hz O => (ev_op (ev_int) (ev_var rfl) rv_sub)) (by omega)) (ea_cons (ev_var rfl) (ea_cons (ev_var rfl) ea_nil))))) hF) (fun _ => ()) (fun _ x hx => ?_) (fun _ hn => ?_) (fun _ => rfl) k
    · simp at hx ⊢
      rcases hx with h | h | h
      · exact .inr (.inr (.inl h))
      · exact .inr (.inl h)
      · exact .inr (.inr (.inr h))
    · simp at hn ⊢
      obtain ⟨a1, ⟨a2, a3⟩, a4⟩ := hn
      exact ⟨⟨fun e => a2 e.symm, a4⟩, a3⟩
  · refine go_for (vs := [9]) (src_keys lk (ev_op (ev_var rfl) (ev_int) (rv_ixT rfl))) (fun i => [some (L Ro rs), some (L (L Op) (tbl n Df)), some (L I hg), some (L PII lifts), some (Tp [At lh, At dp, At ds]), some (L Ro (turned rs)), some (L (L Op) (tbl n fun i j => Df j i)), some (L PII (negS lifts)), some (At dn), none, none, none, none, none, none, none]) (fun i => [(dn, oD (L I) (revS (st.take i))), (dp, oD Op pu), (lh, oL I hs)]) (fun i z => [some (L Ro rs), some (L (L Op) (tbl n Df)), some (L I hg), some (L PII lifts), some (Tp [At lh, At dp, At ds]), some (L Ro (turned rs)), some (L (L Op) (tbl n fun i j => Df j i)), some (L PII (negS lifts)), some (At dn), some (I z), none, none, none, none, none, none]) (.yes rfl (.yes rfl (.yes rfl (.yes rfl (.yes rfl (.yes rfl (.yes rfl (.yes rfl (.yes rfl (.no (.no (.no (.no (.no (.no (.no .nil)))))))))))))))) rfl (fun i z hz => tg_name) (fun b2 r2 i z hz => ?_) ?_
    · rw [List.getElem?_map] at hz
      cases hp : st[i]? with
      | none =>
        rw [hp] at hz
        cases hz
      | some p =>
        rw [hp] at hz
        cases hz
        rw [revS_take hnd hp]
        refine go_dput (x := p.2.reverse) (ev_rev (ev_dgetL (lk.reb r2) (ev_op (ev_var rfl) (ev_int) (rv_ixT rfl)) (ev_var rfl) (dl_at hnd p (List.mem_of_getElem? hp)))) (ev_var rfl) (ev_var rfl) ?_ (nx_pst (.yes rfl (.yes rfl (.yes rfl (.yes rfl (.yes rfl (.yes rfl (.yes rfl (.yes rfl (.yes rfl (.no (.no (.no (.no (.no (.no (.no .nil)))))))))))))))))
        unfold revS
        have := List.length_take (i := i) (l := st)
        rw [List.length_map]
        omega
    · rw [List.length_map, List.take_length]
      exact hn

end
end Rb

set_option Elab.async false
set_option linter.all false
set_option maxRecDepth 100000
set_option maxHeartbeats 4000000
namespace Rb
open PySem PySem.Spec PyProof.Rows L2
/-! the law's pool of draws, in plain Lean -/
structure Pl where
  s : Int
  cs : List Int
  x : Int
  c : Int
def feedS (q : Pl) : Int := if 10 ^ 18 ≤ q.cs.headD 0 then q.cs.headD 0 else q.s
def feed (q : Pl) : Pl := if (decide (q.s = 0) && !decide (q.cs = [])) = true then ⟨feedS q, q.cs.eraseIdx 0, (q.x * 48271 + q.cs.headD 0 % 2147483629 + 7) % 2147483647, q.c⟩ else q
def mixA (q : Pl) : Int := (q.x + (q.c + 1) * 1299709) % 2147483629
def mixB (a : Int) : Int := a ^ (5 : Int).toNat % 2147483647 * 39373 % 2147483629
def dr1 (q : Pl) (m : Int) : Int × Pl := if 0 < q.s then (q.s % m, ⟨q.s / m, q.cs, q.x, q.c⟩) else (mixB (mixA q) / 16 % m, ⟨q.s, q.cs, q.x, q.c + 1⟩)
def dr (q : Pl) (m : Int) : Int × Pl := dr1 (feed q) m
theorem dr_rng (q : Pl) {m : Int} (h : 0 < m) : 0 ≤ (dr q m).1 ∧ (dr q m).1 < m := by
  unfold dr dr1
  split
  · exact ⟨Int.emod_nonneg _ (by omega), Int.emod_lt_of_pos _ h⟩
  · exact ⟨Int.emod_nonneg _ (by omega), Int.emod_lt_of_pos _ h⟩
theorem mixA_rng (q : Pl) : 0 ≤ mixA q ∧ mixA q < 2147483629 := ⟨Int.emod_nonneg _ (by decide), Int.emod_lt_of_pos _ (by decide)⟩
def PlOw (p lc : Addr) (q : Pl) : List Ow := [(p, oL (fun P : HP => P) [I q.s, At lc, I q.x, I q.c]), (lc, oL I q.cs)]
/-- a number drawn -/
def nb (q : Pl) (w : Bool) : Int × Pl := if w = true then ((dr q 1000000).1 * 1000000000000 + (dr (dr q 1000000).2 1000000).1 * 1000000 + (dr (dr (dr q 1000000).2 1000000).2 1000000).1 - 500000000000000000, (dr (dr (dr q 1000000).2 1000000).2 1000000).2) else ((dr q 9).1 - 4, (dr q 9).2)
/-- heights drawn -/
structure Hgs where
  q : Pl
  one : List Int
  two : List Int
def hstep (w : Bool) (sh : List Int) (s : Hgs) : Hgs :=
  let a := nb s.q w
  let d := dr a.2 3
  ⟨d.2, s.one ++ [a.1], s.two ++ [a.1 + iget sh d.1]⟩
def hit (w : Bool) (sh : List Int) (s : Hgs) : Nat → Hgs
  | 0 => s
  | t + 1 => hstep w sh (hit w sh s t)
def shifts (q : Pl) (w : Bool) : List Int := [0, (nb q w).1, (nb (nb q w).2 false).1]
def hgs (q : Pl) (n : Int) (w : Bool) : Hgs := hit w (shifts q w) ⟨(nb (nb q w).2 false).2, [0], [0]⟩ n.toNat
/-- ropes drawn -/
def gap (one two : List Int) (u l : Int) : Int := imax [iget one u - iget one l, iget two u - iget two l]
def rooms6 : List Int := [0, 0, 0, 1, 2, 100000000000000000]
def rstep (one two : List Int) (n : Int) (s : Pl × List Rope) : Pl × List Rope :=
  let a := dr s.1 (n + 1)
  let d := dr a.2 n
  let e := dr d.2 6
  let g := dr e.2 3
  let l := (a.1 + 1 + d.1) % (n + 1)
  (g.2, s.2 ++ (a.1, l, gap one two a.1 l + iget rooms6 e.1) :: if g.1 = 0 then [(l, a.1, gap one two l a.1)] else [])
def rit (one two : List Int) (n : Int) (s : Pl × List Rope) : Nat → Pl × List Rope
  | 0 => s
  | t + 1 => rstep one two n (rit one two n s t)
def ropes (q : Pl) (one two : List Int) (n m : Int) : Pl × List Rope := rit one two n ((dr q m).2, []) (dr q m).1.toNat
/-- slips drawn -/
structure Sls where
  q : Pl
  rest : List Int
  sl : Slips
def sstep (hg : List Int) (w : Bool) (s : Sls) : Sls :=
  let a := dr s.q s.rest.length
  let c := iget s.rest a.1
  let d := dr a.2 12
  if w = true then ⟨(nb d.2 true).2, s.rest.eraseIdx a.1.toNat, s.sl ++ [(c, (nb d.2 true).1)]⟩ else ⟨d.2, s.rest.eraseIdx a.1.toNat, s.sl ++ [(c, iget hg c + 2 - d.1)]⟩
def sit (hg : List Int) (w : Bool) (s : Sls) : Nat → Sls
  | 0 => s
  | t + 1 => sstep hg w (sit hg w s t)
def slips (q : Pl) (hg : List Int) (w : Bool) : Sls := sit hg w ⟨(dr q hg.length).2, rg 1 hg.length, []⟩ (dr q hg.length).1.toNat
/-- the rig filled -/
def fstep (rs : List Rope) (s : Pl × List Rope) : Pl × List Rope :=
  let a := dr s.1 rs.length
  let d := dr a.2 3
  (d.2, s.2 ++ [((rp rs a.1).1, (rp rs a.1).2.1, (rp rs a.1).2.2 + d.1)])
def fit (rs : List Rope) (s : Pl × List Rope) : Nat → Pl × List Rope
  | 0 => s
  | t + 1 => fstep rs (fit rs s t)
def filled (q : Pl) (rs : List Rope) : Pl × List Rope := fit rs (q, rs) (60 - rs.length)
theorem hit_len (w : Bool) (sh : List Int) (s : Hgs) : ∀ t, (hit w sh s t).one.length = s.one.length + t ∧ (hit w sh s t).two.length = s.two.length + t
  | 0 => ⟨rfl, rfl⟩
  | t + 1 => by
    have h := hit_len w sh s t
    unfold hit hstep
    simp only [List.length_append, List.length_cons, List.length_nil]
    omega
theorem rit_len (one two : List Int) (n : Int) (s : Pl × List Rope) : ∀ t, (rit one two n s t).2.length ≤ s.2.length + 2 * t
  | 0 => Nat.le_refl _
  | t + 1 => by
    have h := rit_len one two n s t
    unfold rit rstep
    simp only [List.length_append, List.length_cons]
    split <;> simp <;> omega
theorem fit_len (rs : List Rope) (s : Pl × List Rope) : ∀ t, (fit rs s t).2.length = s.2.length + t
  | 0 => rfl
  | t + 1 => by
    have h := fit_len rs s t
    unfold fit fstep
    simp only [List.length_append, List.length_cons, List.length_nil]
    omega
/-- who is left, who has gone -/
structure okSit (n : Int) (i : Nat) (s : Sls) : Prop where
  len : (s.rest.length : Int) = n - i
  sl : s.sl.length = i
  rng : ∀ c ∈ s.rest, 1 ≤ c ∧ c ≤ n
  all : (s.sl.map (·.1) ++ s.rest).Nodup
  gone : ∀ z ∈ s.sl, 1 ≤ z.1 ∧ z.1 ≤ n
theorem nd_move {l : List Int} {j : Nat} {x : Int} (h : l[j]? = some x) : l.Perm (x :: l.eraseIdx j) := by
  induction l generalizing j with
  | nil => simp at h
  | cons y l ih =>
    cases j with
    | zero =>
      simp at h
      subst h
      exact List.Perm.refl _
    | succ j =>
      simp at h
      exact (List.Perm.cons _ (ih h)).trans (List.Perm.swap _ _ _)
theorem okSit.step {n : Int} {i : Nat} {hg : List Int} {w : Bool} {s : Sls} (h : okSit n i s) (hi : (i : Int) < n) : okSit n (i + 1) (sstep hg w s) ∧ 0 ≤ (dr s.q s.rest.length).1 ∧ (dr s.q s.rest.length).1 < s.rest.length := by
  have hl := h.len
  have hr := dr_rng s.q (m := s.rest.length) (by omega)
  refine ⟨?_, hr⟩
  have hj : (dr s.q s.rest.length).1.toNat < s.rest.length := by omega
  have hx : s.rest[(dr s.q s.rest.length).1.toNat]? = some (iget s.rest (dr s.q s.rest.length).1) := by
    unfold iget
    rw [List.getD_eq_getElem?_getD, List.getElem?_eq_getElem hj]
    rfl
  have key : ∀ (q' : Pl) (v : Int), okSit n (i + 1) ⟨q', s.rest.eraseIdx (dr s.q s.rest.length).1.toNat, s.sl ++ [(iget s.rest (dr s.q s.rest.length).1, v)]⟩ := fun q' v => by
    refine ⟨?_, ?_, fun c hc => h.rng c (List.mem_of_mem_eraseIdx hc), ?_, fun z hz => ?_⟩
    · show ((s.rest.eraseIdx (dr s.q s.rest.length).1.toNat).length : Int) = _
      rw [List.length_eraseIdx, if_pos hj]
      push_cast
      omega
    · show (s.sl ++ [_]).length = _
      rw [List.length_append, h.sl]
      rfl
    · have p : (s.sl.map (·.1) ++ s.rest).Perm ((s.sl ++ [(iget s.rest (dr s.q s.rest.length).1, v)]).map (·.1) ++ s.rest.eraseIdx (dr s.q s.rest.length).1.toNat) := by
        rw [List.map_append, List.append_assoc]
        exact List.Perm.append_left _ (nd_move hx)
      exact p.nodup_iff.mp h.all
    · rcases List.mem_append.mp hz with hz | hz
      · exact h.gone z hz
      · simp at hz
        subst hz
        exact h.rng _ (List.mem_of_getElem? hx)
  unfold sstep
  simp only
  split
  · exact key _ _
  · exact key _ _
theorem okSit.it {n : Int} {hg : List Int} {w : Bool} {s : Sls} (h : okSit n 0 s) : ∀ t : Nat, (t : Int) ≤ n → okSit n t (sit hg w s t)
  | 0, _ => h
  | t + 1, ht => (okSit.step (okSit.it h t (by omega)) (by omega)).1
theorem okSit.start {n : Int} (q : Pl) (h0 : 0 ≤ n) : okSit n 0 ⟨q, rg 1 (n + 1), []⟩ := ⟨by show ((rg 1 (n + 1)).length : Int) = _; rw [rg_length]; omega, rfl, fun c hc => by have := mem_rg.mp hc; omega, by simpa using rg_nodup 1 (n + 1), fun z hz => by simp at hz⟩
theorem pmB {α : Type} {A : List α} {x y : α} : (A ++ [x, y]).Perm (y :: (A ++ [x])) := by simpa using List.perm_append_comm (l₁ := A ++ [x]) (l₂ := [y])
theorem pmA {α : Type} {A R : List α} {x : α} : (A ++ x :: R).Perm (x :: (A ++ R)) := List.perm_middle
section
variable {b : Bs} {G G' G1 : List (Option HP)} {O O1 O2 O' R : List Ow} {P P0 P1 P2 : HP} {tt : TT} {t u : TS} {D : Ends} {ta tb te td ty tk tv : TE} {K : PySem.W.Frag} {α β ζ : Type} {f : α → HP} {kvs : List (Int × α)} {xs : List α} {p lc : Addr} {q : Pl}
theorem pl_mem : (p, oL (fun P : HP => P) [I q.s, At lc, I q.x, I q.c]) ∈ PlOw p lc q ++ R := List.mem_append_left _ (List.mem_cons_self ..)
theorem pl0 : RV (Hold (PlOw p lc q ++ R)) (rIxL K) (At p) (I 0) (I q.s) := rv_ixO (f := fun P : HP => P) (xs := [I q.s, At lc, I q.x, I q.c]) (x := I q.s) pl_mem rfl
theorem pl1 : RV (Hold (PlOw p lc q ++ R)) (rIxL K) (At p) (I 1) (At lc) := rv_ixO (f := fun P : HP => P) (xs := [I q.s, At lc, I q.x, I q.c]) (x := At lc) pl_mem rfl
theorem pl2 : RV (Hold (PlOw p lc q ++ R)) (rIxL K) (At p) (I 2) (I q.x) := rv_ixO (f := fun P : HP => P) (xs := [I q.s, At lc, I q.x, I q.c]) (x := I q.x) pl_mem rfl
theorem pl3 : RV (Hold (PlOw p lc q ++ R)) (rIxL K) (At p) (I 3) (I q.c) := rv_ixO (f := fun P : HP => P) (xs := [I q.s, At lc, I q.x, I q.c]) (x := I q.c) pl_mem rfl
/-- if ..: return ..; the rest -/
theorem sq_ifR {c : Bool} (h : EvT b tt G O c O1) (h1 : c = true → Go b t G O1 { D with nx := u D }) (h2 : c = false → Go b u G O1 D) : Go b (tSeq (tIfS tt t tNext) u) G O D := go_if (D := { D with nx := u D }) h h1 h2
theorem go_ifC {c : Bool} (h : EvT b tt G O c O1) (h1 : c = true → Go b t G O1 D) (h2 : c = false → Nx b G O1 D.nx) : Go b (tIfS tt t tNext) G O D := go_if h h1 h2
theorem ev_lessA {A : β → List Ow} (h : EvX b te G O (fun _ : β => P) (fun y => A y ++ O1)) : Ev b te G O P O1 := fun σ B H S Q k => h σ B H S Q fun y v B' H' s S' hv => k v B' H' s (S'.owned (fun x hx => List.mem_append_right _ hx) (by
  have := S'.nd
  rw [List.map_append, List.nodup_append] at this
  exact this.2.1)) hv
theorem evx_op {P : β → HP} {Oy O2 : β → List Ow} {r : R2} {P3 : HP} (ha : EvX b ta G O P Oy) (hb : ∀ y, Ev b tb G (Oy y) P1 (O2 y)) (hr : ∀ y, RV (Hold (O2 y)) r (P y) P1 P3) : EvX b (tOp r ta tb) G O (fun _ : β => P3) O2 := fun σ B H S Q k =>
  ha σ B H S _ fun y v B1 H1 s1 S1 hv => hb y σ B1 H1 S1 _ fun w B2 H2 s2 S2 hw => hr y v w B2 H2 S2.bh S2.hold ((P y).m s2 hv) hw Q fun z B3 H3 f hz => k y z B3 H3 ((s1.trans s2).trans f.bb) (S2.step f) hz
theorem evx_opX {P P3 : β → HP} {Oy O2 : β → List Ow} {r : R2} (ha : EvX b ta G O P Oy) (hb : ∀ y, Ev b tb G (Oy y) P1 (O2 y)) (hr : ∀ y, RV (Hold (O2 y)) r (P y) P1 (P3 y)) : EvX b (tOp r ta tb) G O P3 O2 := fun σ B H S Q k =>
  ha σ B H S _ fun y v B1 H1 s1 S1 hv => hb y σ B1 H1 S1 _ fun w B2 H2 s2 S2 hw => hr y v w B2 H2 S2.bh S2.hold ((P y).m s2 hv) hw Q fun z B3 H3 f hz => k y z B3 H3 ((s1.trans s2).trans f.bb) (S2.step f) hz
theorem nx_less {N : L2.St → Hp → Prop} (w : ∀ x ∈ O', x ∈ O) (n : (ad O).Nodup → (ad O').Nodup) (h : Nx b G O' N) : Nx b G O N := fun σ B H S => h σ B H (S.owned w (n S.nd))
theorem et_less {c : Bool} (h : EvT b tt G O c O1) (w : ∀ x ∈ O', x ∈ O1) (n : (ad O1).Nodup → (ad O').Nodup) : EvT b tt G O c O' := fun σ B H S Q k => h σ B H S Q fun B' H' s S' => k B' H' s (S'.owned w (n S'.nd))
theorem pairs_shaped (sl : Slips) : SeqAt.shaped (.list (sl.map fun z => PyData.tuple [.int z.1, .int z.2])) = true := by
  have h1 : PyData.canLayAll0 (sl.map fun z => PyData.tuple [.int z.1, .int z.2]) = true := by
    induction sl with
    | nil => rfl
    | cons n ns ih => simpa [PyData.canLayAll0, PyData.canLay0] using ih
  have h2 : PyData.depthAll (sl.map fun z => PyData.tuple [.int z.1, .int z.2]) ≤ 1 := by
    clear h1
    induction sl with
    | nil => simp [PyData.depthAll]
    | cons n ns ih =>
      simp [PyData.depthAll, PyData.depth]
      omega
  simp [SeqAt.shaped, PyData.canLay0, PyData.depth, h1]
  omega
theorem pairs_eqv : ∀ (sl : Slips), PyData.eqv (.list (sl.map fun z => PyData.tuple [.int z.1, .int z.2])) (.list (sl.map fun z => PyData.tuple [.int z.1, .int z.2])) = true := by
  intro sl
  induction sl with
  | nil => rfl
  | cons z sl ih =>
    simp [PyData.eqv, PyData.eqvAll] at ih ⊢
    exact ih
theorem rv_neP {S : Hp → Hp → Prop} {sl : Slips} : RV S (rNeD K) (L PII sl) (L PII sl) (Bo false) := rv_neD (d := .list (sl.map fun z => PyData.tuple [.int z.1, .int z.2])) (dat_list fun _ _ => dat_pair dat_int dat_int) (dat_list fun _ _ => dat_pair dat_int dat_int) (pairs_shaped sl) (pairs_shaped sl) (pairs_eqv sl)
end
end Rb

set_option Elab.async false
set_option linter.all false
set_option maxRecDepth 100000
set_option maxHeartbeats 4000000
namespace Rb
open PySem PySem.Spec PyProof.Rows L2
section
variable {Pg : Program} {w : World} {K : PySem.W.Frag} {mg : Str → Option Value} {base : Heap}
abbrev N_law_pool : List PySem.Str := ["_law_script"]
theorem sc_law_pool : FnScope N_law_pool ["_law_script"] (defScope s__law_pool) := ⟨rfl, rfl, rfl, by decide +kernel, rfl, by decide +kernel, by decide +kernel⟩
abbrev sp_law_pool (K : PySem.W.Frag) : Sp := Spx (β := Addr × Addr) (fun _ : List Int => True) (fun ns => [Sc K ns]) (fun _ => []) (fun _ y => At y.1) (fun ns y => PlOw y.1 y.2 ⟨0, cutS ns 63, 12345, 0⟩)
theorem ok_law_pool (W : Wd K mg) : Fn Pg w K mg base 1 "_law_pool" (sp_law_pool K) [] := by
  obtain ⟨fd, F⟩ := W.says.def_ 36 (d := d__law_pool) rfl
  refine ⟨_, fd, ["_law_script"], [], fn_ok F sc_law_pool (fun _ => rfl) (by decide) ?_, W.g 36 _ rfl, F.kp, FunD.bindsN F (fun _ _ _ _ _ _ us hl => match us, hl with | [_], _ => rfl), .nil⟩
  rintro cdv A outer s H E hr ns hp
  try dsimp only at hp
  refine ⟨_, (pss_one (ps_ret (pe_lst (pa_cons (pe_int) (pa_cons (pe_callTy (r := rListQ K) call_list_of (by rfl) (W.z 63 _ rfl) (by decide +kernel) (pa_cons (pe_slice (r := rSlL K) sl_list (pv 0) po_none (po_some (pe_int))) pa_nil)) (pa_cons (pe_int) (pa_cons (pe_int) pa_nil))))))), fun b Q sb k => ?_⟩
  try dsimp only
  try dsimp only at k
  exact go_retX (evx_lstX (eax_cons (ev_int) (eax_both (evx_list (ea_cons (ev_cutS (ev_var rfl)) ea_nil)) fun lc => eax_of (ea_cons (ev_int) (ea_cons (ev_int) ea_nil)))) (fun _ => (by decide : 4 ≤ 100000))) (fun z => (z.1, z.2.1)) (fun _ x hx => hx) (fun _ hn => hn) (fun _ => rfl) k

abbrev N_law_draw : List PySem.Str := ["_law_pool_here", "_law_many", "_law_mixed", "_law_cell", "_law_told"]
theorem sc_law_draw : FnScope N_law_draw ["_law_pool_here", "_law_many"] (defScope s__law_draw) := ⟨rfl, rfl, rfl, by decide +kernel, rfl, by decide +kernel, by decide +kernel⟩
abbrev sp_law_draw (K : PySem.W.Frag) : Sp := Spx (β := Unit) (fun a : Addr × Addr × Pl × Int => 0 < a.2.2.2 ∧ a.2.2.2 < 1073741824) (fun a => [At a.1, I a.2.2.2]) (fun a => PlOw a.1 a.2.1 a.2.2.1) (fun a _ => I (dr a.2.2.1 a.2.2.2).1) (fun a _ => PlOw a.1 a.2.1 (dr a.2.2.1 a.2.2.2).2)
theorem ok_law_draw (W : Wd K mg) : Fn Pg w K mg base 1 "_law_draw" (sp_law_draw K) [] := by
  obtain ⟨fd, F⟩ := W.says.def_ 37 (d := d__law_draw) rfl
  refine ⟨_, fd, ["_law_pool_here", "_law_many"], [], fn_ok F sc_law_draw (fun _ => rfl) (by decide) ?_, W.g 37 _ rfl, F.kp, FunD.bindsN F (fun _ _ _ _ _ _ us hl => match us, hl with | [_, _], _ => rfl), .nil⟩
  rintro cdv A outer s H E hr ⟨p, lc, q, m⟩ hp
  try dsimp only at hp
  have hu64 : (cxOf CX0 Pg w K mg base N_law_draw "_law_draw" (defScope s__law_draw) (He.fAd K d__law_draw.at_) cdv A outer s H E).nox.A.units + 64 < cLine := hu64_of hr
  refine ⟨_, (Evl.pss_cut (ps_if (PW.pt (pw_and (pt_cmpR op_eq (pe_ix (r := rIxL K) ix_list (pv 0) (pe_int) (fun _ _ => rfl)) (pe_int) (nomark _)) (pw_and1 (pt_cmpR (r := rNeD K) (op_neD hu64) (pe_ix (r := rIxL K) ix_list (pv 0) (pe_int) (fun _ _ => rfl)) (pe_lst pa_nil) (nomark _))))) (pss_cons (ps_set (i := 3) sc_law_draw.nd rfl (by first | exact Or.inl rfl | exact Or.inr rfl) (pe_bm PySem.F.plainAttrs_list PySem.F.slot_list_pop PySem.F.type_list_pop mt_popAt (pe_ix (r := rIxL K) ix_list (pv 0) (pe_int) (fun _ _ => rfl)) (pa_cons (pe_int) pa_nil)))
      (Evl.pss_cut (ps_if (pt_cmpR op_ge (pv 3) (pe_op op_pow (pe_int) (pe_int)) (nomark _)) (pss_one (ps_asg (pv 3) (pg_sub (pv 0) (pe_int) set_list))) pss_nil)
      (pss_one (ps_asg (pe_op op_mod (pe_op op_add (pe_op op_add (pe_op op_mul (pe_ix (r := rIxL K) ix_list (pv 0) (pe_int) (fun _ _ => rfl)) (pe_int)) (pe_op op_mod (pv 3) (pe_int))) (pe_int)) (pe_int)) (pg_sub (pv 0) (pe_int) set_list))))) pss_nil)
      (pss_cons (ps_if (pt_cmpR op_gt (pe_ix (r := rIxL K) ix_list (pv 0) (pe_int) (fun _ _ => rfl)) (pe_int) (nomark _)) (pss_cons (ps_set (i := 4) sc_law_draw.nd rfl (by first | exact Or.inl rfl | exact Or.inr rfl) (pe_op op_mod (pe_ix (r := rIxL K) ix_list (pv 0) (pe_int) (fun _ _ => rfl)) (pv 1)))
      (pss_cons (ps_asg (pe_op op_fdiv (pe_ix (r := rIxL K) ix_list (pv 0) (pe_int) (fun _ _ => rfl)) (pv 1)) (pg_sub (pv 0) (pe_int) set_list))
      (pss_one (ps_ret (pv 4))))) pss_nil)
      (pss_cons (ps_asg (pe_op op_add (pe_ix (r := rIxL K) ix_list (pv 0) (pe_int) (fun _ _ => rfl)) (pe_int)) (pg_sub (pv 0) (pe_int) set_list))
      (pss_cons (ps_set (i := 2) sc_law_draw.nd rfl (by first | exact Or.inl rfl | exact Or.inr rfl) (pe_op op_mod (pe_op op_add (pe_ix (r := rIxL K) ix_list (pv 0) (pe_int) (fun _ _ => rfl)) (pe_op op_mul (pe_ix (r := rIxL K) ix_list (pv 0) (pe_int) (fun _ _ => rfl)) (pe_int))) (pe_int)))
      (pss_cons (ps_set (i := 2) sc_law_draw.nd rfl (by first | exact Or.inl rfl | exact Or.inr rfl) (pe_op op_mod (pe_op op_mul (pe_op op_mod (pe_op op_pow (pv 2) (pe_int)) (pe_int)) (pe_int)) (pe_int)))
      (pss_one (ps_ret (pe_op op_mod (pe_op op_fdiv (pv 2) (pe_int)) (pv 1))))))))), fun b Q sb k => ?_⟩
  try dsimp only
  try dsimp only at k
  obtain ⟨m0, m1⟩ := hp
  have WD : Wkn [some (At p), some (I m), none, none, none] [some (At p), some (I m), none, none, none] := (.yes rfl (.yes rfl (.no (.no (.no .nil)))))
  refine go_cut (G1 := [some (At p), some (I m), none, none, none]) (O2 := PlOw p lc (feed q) ++ []) ?_ ?_
  · refine go_ifC (c := decide (q.s = 0) && !decide (q.cs = [])) (O1 := PlOw p lc q ++ []) (et_and (et_test (ev_op (ev_op (ev_var rfl) (ev_int) (pl0 (R := []))) (ev_int) rv_eq)) fun _ => (et_test (ev_op (ev_op (ev_var rfl) (ev_int) (pl1 (R := []))) (ev_lst I [] ea_nil) (rv_neD (dat_own (xs := q.cs) (f := I) (by simp [PlOw]) (fun _ _ => dat_int)) (dat_list fun _ _ => dat_int) (shaped_ints _) (shaped_ints []) (eqv_ints q.cs []))))) (fun h => ?_) fun h => ?_
    · have hne : q.cs ≠ [] := by
        intro e
        rw [e] at h
        simp at h
      have hpos : 0 < q.cs.length := List.length_pos_iff.mpr hne
      have h0 : q.cs[0]? = some (q.cs.headD 0) := by
        cases hq : q.cs with
        | nil => exact absurd hq hne
        | cons x r => rfl
      have hf : feed q = ⟨feedS q, q.cs.eraseIdx 0, (q.x * 48271 + q.cs.headD 0 % 2147483629 + 7) % 2147483647, q.c⟩ := if_pos h
      rw [hf]
      refine sq_asg (ev_popAt (f := I) (xs := q.cs) (l := lc) (j := 0) (ev_op (ev_var rfl) (ev_int) (pl1 (R := []))) (by simp [PlOw]) (Ev.perm (ev_int (O := PlOw p lc q ++ [])) (List.Perm.swap _ _ _)) (by unfold ixN; simp [hpos]) h0 (by decide) (by decide)) ?_
      refine go_cut (G1 := [some (At p), some (I m), none, some (I (q.cs.headD 0)), none]) (O2 := [(p, oL (fun P : HP => P) [I (feedS q), At lc, I q.x, I q.c]), (lc, oL I (q.cs.eraseIdx 0))]) ?_ ?_
      · refine go_perm (O' := [(p, oL (fun P : HP => P) [I q.s, At lc, I q.x, I q.c]), (lc, oL I (q.cs.eraseIdx 0))]) (List.Perm.swap _ _ _) ?_
        refine go_ifC (c := decide (10 ^ 18 ≤ q.cs.headD 0)) (et_test (ev_op (ev_var rfl) (Ev.cast (P1 := I (10 ^ 18)) (ev_op (ev_int) (ev_int) (rv_pow ⟨by decide, by decide, by decide⟩)) rfl) rv_ge)) (fun h2 => ?_) fun h2 => ?_
        · have e : feedS q = q.cs.headD 0 := if_pos (of_decide_eq_true h2)
          rw [e]
          exact go_setL (f := fun P : HP => P) (x := I (q.cs.headD 0)) (xs := [I q.s, At lc, I q.x, I q.c]) (ev_var rfl) (ev_var rfl) (ev_int) (j := 0) rfl (nx_pst (.yes rfl (.yes rfl (.no (.yes rfl (.no .nil))))))
        · have e : feedS q = q.s := if_neg (of_decide_eq_false h2)
          rw [e]
          exact nx_pst (.yes rfl (.yes rfl (.no (.yes rfl (.no .nil)))))
      · exact go_setL (f := fun P : HP => P) (xs := [I (feedS q), At lc, I q.x, I q.c]) (x := I ((q.x * 48271 + q.cs.headD 0 % 2147483629 + 7) % 2147483647)) (ev_op (ev_op (ev_op (ev_op (ev_op (ev_var rfl) (ev_int) (rv_ixO (f := fun P : HP => P) (xs := [I (feedS q), At lc, I q.x, I q.c]) (x := I q.x) (List.mem_cons_self ..) rfl)) (ev_int) (rv_mul (.inr ⟨by decide, by decide⟩))) (ev_op (ev_var rfl) (ev_int) (rv_mod (by decide))) rv_add) (ev_int) rv_add) (ev_int) (rv_mod (by decide))) (ev_var rfl) (ev_int) (j := 2) rfl (nx_pst (.yes rfl (.yes rfl (.no (.no (.no .nil))))))
    · have hf : feed q = q := if_neg (by rw [h]; decide)
      rw [hf]
      exact nx_pst (.yes rfl (.yes rfl (.no (.no (.no .nil)))))
  · refine sq_ifR (c := decide (0 < (feed q).s)) (O1 := PlOw p lc (feed q) ++ []) (et_test (ev_op (ev_op (ev_var rfl) (ev_int) (pl0 (R := []))) (ev_int) rv_gt)) (fun h => ?_) fun h => ?_
    · have hd : dr q m = ((feed q).s % m, ⟨(feed q).s / m, (feed q).cs, (feed q).x, (feed q).c⟩) := if_pos (of_decide_eq_true h)
      rw [hd] at k
      refine sq_asg (ev_op (ev_op (ev_var rfl) (ev_int) (pl0 (R := []))) (ev_var rfl) (rv_mod m0)) ?_
      refine sq_setL (f := fun P : HP => P) (xs := [I (feed q).s, At lc, I (feed q).x, I (feed q).c]) (x := I ((feed q).s / m)) (ev_op (ev_op (ev_var rfl) (ev_int) (pl0 (R := []))) (ev_var rfl) (rv_fdiv ⟨m0, m1⟩)) (ev_var rfl) (ev_int) (j := 0) rfl ?_
      exact goX () k (ev_var rfl) rfl rfl
    · have hd : dr q m = (mixB (mixA (feed q)) / 16 % m, ⟨(feed q).s, (feed q).cs, (feed q).x, (feed q).c + 1⟩) := if_neg (of_decide_eq_false h)
      rw [hd] at k
      have hmx := mixA_rng (feed q)
      refine sq_setL (f := fun P : HP => P) (xs := [I (feed q).s, At lc, I (feed q).x, I (feed q).c]) (x := I ((feed q).c + 1)) (ev_op (ev_op (ev_var rfl) (ev_int) (pl3 (R := []))) (ev_int) rv_add) (ev_var rfl) (ev_int) (j := 3) rfl ?_
      refine go_perm (O' := PlOw p lc ⟨(feed q).s, (feed q).cs, (feed q).x, (feed q).c + 1⟩ ++ []) (List.Perm.refl _) ?_
      refine sq_asg (P := I (mixA (feed q))) (ev_op (ev_op (ev_op (ev_var rfl) (ev_int) (pl2 (R := []))) (ev_op (ev_op (ev_var rfl) (ev_int) (pl3 (R := []))) (ev_int) (rv_mul (.inr ⟨by decide, by decide⟩))) rv_add) (ev_int) (rv_mod (by decide))) ?_
      refine sq_asg (P := I (mixB (mixA (feed q)))) (ev_op (ev_op (ev_op (ev_op (ev_var rfl) (ev_int) (rv_pow ⟨by decide, by decide, by omega⟩)) (ev_int) (rv_mod (by decide))) (ev_int) (rv_mul (.inr ⟨by decide, by decide⟩))) (ev_int) (rv_mod (by decide))) ?_
      exact goX () k (ev_op (ev_op (ev_var rfl) (ev_int) (rv_fdiv ⟨by decide, by decide⟩)) (ev_var rfl) (rv_mod m0)) rfl rfl
section
variable {b : Bs} {G : List (Option HP)} {O R : List Ow} {ta : TA} {E : XK} {p lc : Addr} {q : Pl} {m : Int}
theorem ev_draw (h : EvA b ta G O [At p, I m] (PlOw p lc q ++ R)) (h0 : 0 < m) (h1 : m < 1073741824) : Ev b (tCall (sp_law_draw K) [] E ta) G O (I (dr q m).1) (PlOw p lc (dr q m).2 ++ R) := ev_unit (evx_call (R := R) (p, lc, q, m) h ⟨h0, h1⟩)
end


abbrev N_law_number : List PySem.Str := ["_law_pool_here", "_law_wide", "_law_found"]
theorem sc_law_number : FnScope N_law_number ["_law_pool_here", "_law_wide"] (defScope s__law_number) := ⟨rfl, rfl, rfl, by decide +kernel, rfl, by decide +kernel, by decide +kernel⟩
abbrev sp_law_number (K : PySem.W.Frag) : Sp := Spx (β := Unit) (fun _ : Addr × Addr × Pl × Bool => True) (fun a => [At a.1, Bo a.2.2.2]) (fun a => PlOw a.1 a.2.1 a.2.2.1) (fun a _ => I (nb a.2.2.1 a.2.2.2).1) (fun a _ => PlOw a.1 a.2.1 (nb a.2.2.1 a.2.2.2).2)
theorem ok_law_number (W : Wd K mg) : Fn Pg w K mg base 2 "_law_number" (sp_law_number K) [] := by
  obtain ⟨fd, F⟩ := W.says.def_ 38 (d := d__law_number) rfl
  refine ⟨_, fd, ["_law_pool_here", "_law_wide"], [], fn_ok F sc_law_number (fun _ => rfl) (by decide) ?_, W.g 38 _ rfl, F.kp, FunD.bindsN F (fun _ _ _ _ _ _ us hl => match us, hl with | [_, _], _ => rfl), .nil⟩
  rintro cdv A outer s H E hr ⟨p, lc, q, w⟩ hp
  try dsimp only at hp
  refine ⟨_, (pss_cons (ps_if (pt_not (pt_val (pv 1))) (pss_one (ps_ret (pe_op op_sub (pe_fn (ok_law_draw W) (hr.mono (by decide)) (by rfl) (pa_cons (pv 0) (pa_cons (pe_int) pa_nil))) (pe_int)))) pss_nil)
      (pss_cons (ps_set (i := 2) sc_law_number.nd rfl (by first | exact Or.inl rfl | exact Or.inr rfl) (pe_op op_add (pe_op op_mul (pe_fn (ok_law_draw W) (hr.mono (by decide)) (by rfl) (pa_cons (pv 0) (pa_cons (pe_op op_pow (pe_int) (pe_int)) pa_nil))) (pe_op op_pow (pe_int) (pe_int))) (pe_op op_mul (pe_fn (ok_law_draw W) (hr.mono (by decide)) (by rfl) (pa_cons (pv 0) (pa_cons (pe_op op_pow (pe_int) (pe_int)) pa_nil))) (pe_op op_pow (pe_int) (pe_int)))))
      (pss_one (ps_ret (pe_op op_sub (pe_op op_add (pv 2) (pe_fn (ok_law_draw W) (hr.mono (by decide)) (by rfl) (pa_cons (pv 0) (pa_cons (pe_op op_pow (pe_int) (pe_int)) pa_nil)))) (pe_op op_mul (pe_int) (pe_op op_pow (pe_int) (pe_int)))))))), fun b Q sb k => ?_⟩
  try dsimp only
  try dsimp only at k
  refine go_perm (O' := PlOw p lc q ++ []) (by rw [List.append_nil]) ?_
  cases w with
  | false =>
    refine sq_ifR (c := true) (et_not (et_B (ev_var (P := Bo false) rfl))) (fun h => ?_) fun h => by cases h
    exact goX () k (ev_op (ev_draw (q := q) (R := []) (ea_cons (ev_var rfl) (ea_cons (ev_int) ea_nil)) (by decide) (by decide)) (ev_int) rv_sub) rfl (List.append_nil _).symm
  | true =>
    refine sq_ifR (c := false) (et_not (et_B (ev_var (P := Bo true) rfl))) (fun h => by cases h) fun h => ?_
    refine sq_asg (P := I ((dr q 1000000).1 * 1000000000000 + (dr (dr q 1000000).2 1000000).1 * 1000000)) (ev_op (ev_op (ev_draw (q := q) (R := []) (ea_cons (ev_var rfl) (ea_cons (Ev.cast (P1 := I 1000000) (ev_op (ev_int) (ev_int) (rv_pow ⟨by decide, by decide, by decide⟩)) rfl) ea_nil)) (by decide) (by decide)) (Ev.cast (P1 := I 1000000000000) (ev_op (ev_int) (ev_int) (rv_pow ⟨by decide, by decide, by decide⟩)) rfl) (rv_mul (.inr ⟨by decide, by decide⟩))) (ev_op (ev_draw (q := (dr q 1000000).2) (R := []) (ea_cons (ev_var rfl) (ea_cons (Ev.cast (P1 := I 1000000) (ev_op (ev_int) (ev_int) (rv_pow ⟨by decide, by decide, by decide⟩)) rfl) ea_nil)) (by decide) (by decide)) (Ev.cast (P1 := I 1000000) (ev_op (ev_int) (ev_int) (rv_pow ⟨by decide, by decide, by decide⟩)) rfl) (rv_mul (.inr ⟨by decide, by decide⟩))) rv_add) ?_
    exact goX () k (ev_op (ev_op (ev_var rfl) (ev_draw (q := (dr (dr q 1000000).2 1000000).2) (R := []) (ea_cons (ev_var rfl) (ea_cons (Ev.cast (P1 := I 1000000) (ev_op (ev_int) (ev_int) (rv_pow ⟨by decide, by decide, by decide⟩)) rfl) ea_nil)) (by decide) (by decide)) rv_add) (Ev.cast (P1 := I 500000000000000000) (ev_op (ev_int) (ev_op (ev_int) (ev_int) (rv_pow ⟨by decide, by decide, by decide⟩)) (rv_mul (.inl ⟨by decide, by decide⟩))) rfl) rv_sub) rfl (List.append_nil _).symm
section
variable {b : Bs} {G : List (Option HP)} {O R : List Ow} {ta : TA} {E : XK} {p lc : Addr} {q : Pl} {v : Bool}
theorem ev_number (h : EvA b ta G O [At p, Bo v] (PlOw p lc q ++ R)) : Ev b (tCall (sp_law_number K) [] E ta) G O (I (nb q v).1) (PlOw p lc (nb q v).2 ++ R) := ev_unit (evx_call (R := R) (p, lc, q, v) h trivial)
end


abbrev N_law_highs : List PySem.Str := ["_law_pool_here", "_law_many", "_law_wide", "_law_one", "_law_other", "_law_shifts", "_law_turn"]
theorem sc_law_highs : FnScope N_law_highs ["_law_pool_here", "_law_many", "_law_wide"] (defScope s__law_highs) := ⟨rfl, rfl, rfl, by decide +kernel, rfl, by decide +kernel, by decide +kernel⟩
abbrev sp_law_highs (K : PySem.W.Frag) : Sp := Spx (β := Unit) (fun a : Addr × Addr × Pl × Int × Bool => 0 ≤ a.2.2.2.1 ∧ a.2.2.2.1 ≤ 8) (fun a => [At a.1, I a.2.2.2.1, Bo a.2.2.2.2]) (fun a => PlOw a.1 a.2.1 a.2.2.1) (fun a _ => L (L I) [(hgs a.2.2.1 a.2.2.2.1 a.2.2.2.2).one, (hgs a.2.2.1 a.2.2.2.1 a.2.2.2.2).two]) (fun a _ => PlOw a.1 a.2.1 (hgs a.2.2.1 a.2.2.2.1 a.2.2.2.2).q)
theorem ok_law_highs (W : Wd K mg) : Fn Pg w K mg base 3 "_law_highs" (sp_law_highs K) [] := by
  obtain ⟨fd, F⟩ := W.says.def_ 39 (d := d__law_highs) rfl
  refine ⟨_, fd, ["_law_pool_here", "_law_many", "_law_wide"], [], fn_ok F sc_law_highs (fun _ => rfl) (by decide) ?_, W.g 39 _ rfl, F.kp, FunD.bindsN F (fun _ _ _ _ _ _ us hl => match us, hl with | [_, _, _], _ => rfl), .nil⟩
  rintro cdv A outer s H E hr ⟨p, lc, q, n, w⟩ hp
  try dsimp only at hp
  refine ⟨_, (pss_cons (ps_set (i := 3) sc_law_highs.nd rfl (by first | exact Or.inl rfl | exact Or.inr rfl) (pe_lst (pa_cons (pe_int) pa_nil)))
      (pss_cons (ps_set (i := 4) sc_law_highs.nd rfl (by first | exact Or.inl rfl | exact Or.inr rfl) (pe_lst (pa_cons (pe_int) pa_nil)))
      (pss_cons (ps_set (i := 5) sc_law_highs.nd rfl (by first | exact Or.inl rfl | exact Or.inr rfl) (pe_lst (pa_cons (pe_int) (pa_cons (pe_fn (ok_law_number W) (hr.mono (by decide)) (by rfl) (pa_cons (pv 0) (pa_cons (pv 2) pa_nil))) (pa_cons (pe_fn (ok_law_number W) (hr.mono (by decide)) (by rfl) (pa_cons (pv 0) (pa_cons (pe_bl) pa_nil))) pa_nil)))))
      (pss_cons (ps_for PassesOwn.never rfl (pi_range1 (by rfl) (W.z 68 _ rfl) (pa_cons (pv 1) pa_nil)) (pg_name (i := 6) sc_law_highs.nd rfl (by first | exact Or.inl rfl | exact Or.inr rfl)) (pss_cons (ps_expr (pe_bm PySem.F.plainAttrs_list PySem.F.slot_list_append PySem.F.type_list_append mt_append (pv 3) (pa_cons (pe_fn (ok_law_number W) (hr.mono (by decide)) (by rfl) (pa_cons (pv 0) (pa_cons (pv 2) pa_nil))) pa_nil)))
      (pss_one (ps_expr (pe_bm PySem.F.plainAttrs_list PySem.F.slot_list_append PySem.F.type_list_append mt_append (pv 4) (pa_cons (pe_op op_add (pe_ix (r := rIxL K) ix_list (pv 3) (pe_un un_neg (pe_int)) (fun _ _ => rfl)) (pe_ix (r := rIxL K) ix_list (pv 5) (pe_fn (ok_law_draw W) (hr.mono (by decide)) (by rfl) (pa_cons (pv 0) (pa_cons (pe_int) pa_nil))) (fun _ _ => rfl))) pa_nil))))))
      (pss_one (ps_ret (pe_lst (pa_cons (pv 3) (pa_cons (pv 4) pa_nil))))))))), fun b Q sb k => ?_⟩
  try dsimp only
  try dsimp only at k
  obtain ⟨n0, n8⟩ := hp
  refine go_perm (O' := PlOw p lc q ++ []) (by rw [List.append_nil]) ?_
  refine sq_asgX (evx_lst I [0] (ea_cons (ev_int) ea_nil)) fun l1 => ?_
  refine sq_asgX (evx_lst I [0] (ea_cons (ev_int) ea_nil)) fun l2 => ?_
  refine go_perm (O' := PlOw p lc q ++ [(l1, oL I [0]), (l2, oL I [0])]) (by rw [List.append_nil]; exact pmB.trans (List.Perm.cons _ (by simpa using (List.perm_append_comm (l₁ := PlOw p lc q) (l₂ := [(l1, oL I [0])]))))) ?_
  refine sq_asg (P := L I (shifts q w)) (ev_lst I (shifts q w) (ea_cons (ev_int) (ea_cons (ev_number (q := q) (R := [(l1, oL I [0]), (l2, oL I [0])]) (ea_cons (ev_var rfl) (ea_cons (ev_var rfl) ea_nil))) (ea_cons (ev_number (q := (nb q w).2) (R := [(l1, oL I [0]), (l2, oL I [0])]) (ea_cons (ev_var rfl) (ea_cons (ev_bl) ea_nil))) ea_nil))) rfl (by show 3 ≤ 100000; decide)) ?_
  refine sq_for (vs := [6]) (src_rng1 (ea_cons (ev_var rfl) ea_nil) (by omega) (by omega)) (fun t => [some (At p), some (I n), some (Bo w), some (At l1), some (At l2), some (L I (shifts q w)), none]) (fun t => PlOw p lc (hit w (shifts q w) ⟨(nb (nb q w).2 false).2, [0], [0]⟩ t).q ++ [(l1, oL I (hit w (shifts q w) ⟨(nb (nb q w).2 false).2, [0], [0]⟩ t).one), (l2, oL I (hit w (shifts q w) ⟨(nb (nb q w).2 false).2, [0], [0]⟩ t).two)]) (fun t z => [some (At p), some (I n), some (Bo w), some (At l1), some (At l2), some (L I (shifts q w)), some (I z)]) (.yes rfl (.yes rfl (.yes rfl (.yes rfl (.yes rfl (.yes rfl (.no .nil))))))) rfl (fun i z hz => tg_name) (fun b1 r1 t z hz => ?_) ?_
  · have hl := hit_len w (shifts q w) ⟨(nb (nb q w).2 false).2, [0], [0]⟩ t
    have ht := (rg_get hz).2
    have hn1 : hit w (shifts q w) ⟨(nb (nb q w).2 false).2, [0], [0]⟩ (t + 1) = hstep w (shifts q w) (hit w (shifts q w) ⟨(nb (nb q w).2 false).2, [0], [0]⟩ t) := rfl
    rw [hn1]
    generalize hit w (shifts q w) ⟨(nb (nb q w).2 false).2, [0], [0]⟩ t = s at hl ⊢
    simp only [List.length_cons, List.length_nil] at hl
    have hd := dr_rng (nb s.q w).2 (m := 3) (by decide)
    refine sq_app (xs := s.one) (x := (nb s.q w).1) (ev_var rfl) (Ev.perm (ev_number (q := s.q) (R := [(l1, oL I s.one), (l2, oL I s.two)]) (ea_cons (ev_var rfl) (ea_cons (ev_var rfl) ea_nil))) pmA) ⟨_, _, List.mem_append_right _ (List.mem_cons_self ..), rfl⟩ (by omega) ?_
    refine go_perm (O' := PlOw p lc (nb s.q w).2 ++ [(l1, oL I (s.one ++ [(nb s.q w).1])), (l2, oL I s.two)]) pmA ?_
    have hlast : atI (s.one ++ [(nb s.q w).1]) (-1) = some (nb s.q w).1 := by
      have := atI_lastD (xs := s.one ++ [(nb s.q w).1]) (by simp)
      rwa [List.getLastD_concat] at this
    refine go_app (xs := s.two) (x := (nb s.q w).1 + iget (shifts q w) (dr (nb s.q w).2 3).1) (ev_var rfl) (Ev.perm (ev_op (ev_op (ev_var rfl) (ev_neg (ev_int)) (rv_ixO (f := I) (List.mem_append_right _ (List.mem_cons_self ..)) hlast)) (ev_op (ev_var rfl) (ev_draw (q := (nb s.q w).2) (R := [(l1, oL I (s.one ++ [(nb s.q w).1])), (l2, oL I s.two)]) (ea_cons (ev_var rfl) (ea_cons (ev_int) ea_nil)) (by decide) (by decide)) (rv_ixL (iget_at hd.1 (by show _ < ((3 : Nat) : Int); exact hd.2)))) rv_add) pmB) ⟨_, _, List.mem_append_right _ (List.mem_cons_of_mem _ (List.mem_cons_self ..)), rfl⟩ (by omega) ?_
    exact nx_perm pmB (nx_pst (.yes rfl (.yes rfl (.yes rfl (.yes rfl (.yes rfl (.yes rfl (.no .nil))))))))
  · rw [rg_length]
    have e0 : (n - 0).toNat = n.toNat := by omega
    rw [e0]
    refine go_perm pmA.symm ?_
    refine go_free (i := 3) rfl ?_
    refine go_perm pmA.symm ?_
    refine go_free (i := 4) rfl ?_
    exact goX () k (ev_lst (L I) [(hgs q n w).one, (hgs q n w).two] (ea_cons (ev_var rfl) (ea_cons (ev_var rfl) ea_nil))) rfl (List.append_nil _).symm

abbrev N_law_ropes : List PySem.Str := ["_law_pool_here", "_law_highs_here", "_law_most", "_law_ropes_here", "_law_many", "_law_turn", "_law_upper", "_law_lower", "_law_room", "_law_high"]
theorem sc_law_ropes : FnScope N_law_ropes ["_law_pool_here", "_law_highs_here", "_law_most"] (defScope s__law_ropes) := ⟨rfl, rfl, rfl, by decide +kernel, rfl, by decide +kernel, by decide +kernel⟩
abbrev sp_law_ropes (K : PySem.W.Frag) : Sp := Spx (β := Unit) (fun a : Addr × Addr × Pl × Int × List Int × List Int × Int => 1 ≤ a.2.2.2.1 ∧ a.2.2.2.1 ≤ 8 ∧ (a.2.2.2.2.1.length : Int) = a.2.2.2.1 + 1 ∧ (a.2.2.2.2.2.1.length : Int) = a.2.2.2.1 + 1 ∧ 0 < a.2.2.2.2.2.2 ∧ a.2.2.2.2.2.2 ≤ 1000) (fun a => [At a.1, L (L I) [a.2.2.2.2.1, a.2.2.2.2.2.1], I a.2.2.2.2.2.2]) (fun a => PlOw a.1 a.2.1 a.2.2.1) (fun a _ => L Ro (ropes a.2.2.1 a.2.2.2.2.1 a.2.2.2.2.2.1 a.2.2.2.1 a.2.2.2.2.2.2).2) (fun a _ => PlOw a.1 a.2.1 (ropes a.2.2.1 a.2.2.2.2.1 a.2.2.2.2.2.1 a.2.2.2.1 a.2.2.2.2.2.2).1)
theorem ok_law_ropes (W : Wd K mg) : Fn Pg w K mg base 2 "_law_ropes" (sp_law_ropes K) [] := by
  obtain ⟨fd, F⟩ := W.says.def_ 40 (d := d__law_ropes) rfl
  refine ⟨_, fd, ["_law_pool_here", "_law_highs_here", "_law_most"], [], fn_ok F sc_law_ropes (fun _ => rfl) (by decide) ?_, W.g 40 _ rfl, F.kp, FunD.bindsN F (fun _ _ _ _ _ _ us hl => match us, hl with | [_, _, _], _ => rfl), .nil⟩
  rintro cdv A outer s H E hr ⟨p, lc, q, n, one, two, m⟩ hp
  try dsimp only at hp
  refine ⟨_, (pss_cons (ps_set (i := 3) sc_law_ropes.nd rfl (by first | exact Or.inl rfl | exact Or.inr rfl) (pe_lst pa_nil))
      (pss_cons (ps_set (i := 4) sc_law_ropes.nd rfl (by first | exact Or.inl rfl | exact Or.inr rfl) (pe_op op_sub (pe_callB (r := rLenQ K) call_len_seq (by rfl) (W.z 60 _ rfl) PySem.boot_len (pa_cons (pe_ix (r := rIxL K) ix_list (pv 1) (pe_int) (fun _ _ => rfl)) pa_nil)) (pe_int)))
      (pss_cons (ps_for PassesOwn.never rfl (pi_range1 (by rfl) (W.z 68 _ rfl) (pa_cons (pe_fn (ok_law_draw W) (hr.mono (by decide)) (by rfl) (pa_cons (pv 0) (pa_cons (pv 2) pa_nil))) pa_nil)) (pg_name (i := 5) sc_law_ropes.nd rfl (by first | exact Or.inl rfl | exact Or.inr rfl)) (pss_cons (ps_set (i := 6) sc_law_ropes.nd rfl (by first | exact Or.inl rfl | exact Or.inr rfl) (pe_fn (ok_law_draw W) (hr.mono (by decide)) (by rfl) (pa_cons (pv 0) (pa_cons (pe_op op_add (pv 4) (pe_int)) pa_nil))))
      (pss_cons (ps_set (i := 7) sc_law_ropes.nd rfl (by first | exact Or.inl rfl | exact Or.inr rfl) (pe_op op_mod (pe_op op_add (pe_op op_add (pv 6) (pe_int)) (pe_fn (ok_law_draw W) (hr.mono (by decide)) (by rfl) (pa_cons (pv 0) (pa_cons (pv 4) pa_nil)))) (pe_op op_add (pv 4) (pe_int))))
      (pss_cons (ps_set (i := 8) sc_law_ropes.nd rfl (by first | exact Or.inl rfl | exact Or.inr rfl) (pe_ix (r := rIxL K) ix_list (pe_lst (pa_cons (pe_int) (pa_cons (pe_int) (pa_cons (pe_int) (pa_cons (pe_int) (pa_cons (pe_int) (pa_cons (pe_op op_pow (pe_int) (pe_int)) pa_nil))))))) (pe_fn (ok_law_draw W) (hr.mono (by decide)) (by rfl) (pa_cons (pv 0) (pa_cons (pe_int) pa_nil))) (fun _ _ => rfl)))
      (pss_cons (ps_expr (pe_bm PySem.F.plainAttrs_list PySem.F.slot_list_append PySem.F.type_list_append mt_append (pv 3) (pa_cons (pe_tup (pa_cons (pv 6) (pa_cons (pv 7) (pa_cons (pe_op op_add (pe_callB (r := rMax K) (cr_max rfl) (by rfl) (W.z 72 _ rfl) (by decide +kernel) (pa_cons (pe_lc (own := [("_law_high", 9)]) rfl sc_law_ropes.nd (pi_listK (K := K) (pv 1)) (blkOk_by (own := [("_law_high", 9)]) (N := N_law_ropes) (sc := defScope s__law_ropes) (by decide +kernel)) (fun _ _ _ _ _ => pg_name (i := 9) sc_law_ropes.nd rfl (by first | exact Or.inl rfl | exact Or.inr rfl)) (fun _ _ _ _ _ => pts_nil) (fun _ _ _ _ _ => (pe_op op_sub (pe_ix (r := rIxL K) ix_list (pv 9) (pv 6) (fun _ _ => rfl)) (pe_ix (r := rIxL K) ix_list (pv 9) (pv 7) (fun _ _ => rfl))))) pa_nil)) (pv 8)) pa_nil)))) pa_nil)))
      (pss_one (ps_if (pt_cmpR op_eq (pe_fn (ok_law_draw W) (hr.mono (by decide)) (by rfl) (pa_cons (pv 0) (pa_cons (pe_int) pa_nil))) (pe_int) (nomark _)) (pss_one (ps_expr (pe_bm PySem.F.plainAttrs_list PySem.F.slot_list_append PySem.F.type_list_append mt_append (pv 3) (pa_cons (pe_tup (pa_cons (pv 7) (pa_cons (pv 6) (pa_cons (pe_callB (r := rMax K) (cr_max rfl) (by rfl) (W.z 72 _ rfl) (by decide +kernel) (pa_cons (pe_lc (own := [("_law_high", 9)]) rfl sc_law_ropes.nd (pi_listK (K := K) (pv 1)) (blkOk_by (own := [("_law_high", 9)]) (N := N_law_ropes) (sc := defScope s__law_ropes) (by decide +kernel)) (fun _ _ _ _ _ => pg_name (i := 9) sc_law_ropes.nd rfl (by first | exact Or.inl rfl | exact Or.inr rfl)) (fun _ _ _ _ _ => pts_nil) (fun _ _ _ _ _ => (pe_op op_sub (pe_ix (r := rIxL K) ix_list (pv 9) (pv 7) (fun _ _ => rfl)) (pe_ix (r := rIxL K) ix_list (pv 9) (pv 6) (fun _ _ => rfl))))) pa_nil)) pa_nil)))) pa_nil)))) pss_nil)))))))
      (pss_one (ps_ret (pv 3)))))), fun b Q sb k => ?_⟩
  try dsimp only
  try dsimp only at k
  obtain ⟨n1, n8, h1, h2, m0, m1⟩ := hp
  have hk := dr_rng q m0
  refine go_perm (O' := PlOw p lc q ++ []) (by rw [List.append_nil]) ?_
  refine sq_asgX (evx_lst Ro [] ea_nil) fun l => ?_
  refine go_perm (O' := PlOw p lc q ++ [(l, oL Ro [])]) pmA ?_
  refine sq_asg (P := I n) (Ev.cast (ev_op (ev_cb (ea_cons (ev_op (ev_var rfl) (ev_int) (rv_ixL (x := one) rfl)) ea_nil) rc_lenL) (ev_int) rv_sub) (congrArg I (by omega))) ?_
  refine sq_for (vs := [5]) (src_rng1 (ea_cons (ev_draw (q := q) (R := [(l, oL Ro [])]) (ea_cons (ev_var rfl) (ea_cons (ev_var rfl) ea_nil)) m0 (by omega)) ea_nil) (by omega) (by omega)) (fun t => [some (At p), some (L (L I) [one, two]), some (I m), some (At l), some (I n), none, none, none, none, none]) (fun t => PlOw p lc (rit one two n ((dr q m).2, []) t).1 ++ [(l, oL Ro (rit one two n ((dr q m).2, []) t).2)]) (fun t z => [some (At p), some (L (L I) [one, two]), some (I m), some (At l), some (I n), some (I z), none, none, none, none]) (.yes rfl (.yes rfl (.yes rfl (.yes rfl (.yes rfl (.no (.no (.no (.no (.no .nil)))))))))) rfl (fun i z hz => tg_name) (fun b1 r1 t z hz => ?_) ?_
  · have hl := rit_len one two n ((dr q m).2, []) t
    have ht := (rg_get hz).2
    have hn1 : rit one two n ((dr q m).2, []) (t + 1) = rstep one two n (rit one two n ((dr q m).2, []) t) := rfl
    rw [hn1]
    generalize rit one two n ((dr q m).2, []) t = s at hl ⊢
    simp only [List.length_nil] at hl
    have hsl : s.2.length ≤ 3000 := by omega
    have ha := dr_rng s.1 (m := n + 1) (by omega)
    have hd := dr_rng (dr s.1 (n + 1)).2 (m := n) (by omega)
    have he := dr_rng (dr (dr s.1 (n + 1)).2 n).2 (m := 6) (by decide)
    have hlo0 : 0 ≤ ((dr s.1 (n + 1)).1 + 1 + (dr (dr s.1 (n + 1)).2 n).1) % (n + 1) := Int.emod_nonneg _ (by omega)
    have hlo1 : ((dr s.1 (n + 1)).1 + 1 + (dr (dr s.1 (n + 1)).2 n).1) % (n + 1) < n + 1 := Int.emod_lt_of_pos _ (by omega)
    have hst : rstep one two n s = ((dr (dr (dr (dr s.1 (n + 1)).2 n).2 6).2 3).2, s.2 ++ ((dr s.1 (n + 1)).1, ((dr s.1 (n + 1)).1 + 1 + (dr (dr s.1 (n + 1)).2 n).1) % (n + 1), gap one two (dr s.1 (n + 1)).1 (((dr s.1 (n + 1)).1 + 1 + (dr (dr s.1 (n + 1)).2 n).1) % (n + 1)) + iget rooms6 (dr (dr (dr s.1 (n + 1)).2 n).2 6).1) :: if (dr (dr (dr (dr s.1 (n + 1)).2 n).2 6).2 3).1 = 0 then [(((dr s.1 (n + 1)).1 + 1 + (dr (dr s.1 (n + 1)).2 n).1) % (n + 1), (dr s.1 (n + 1)).1, gap one two (((dr s.1 (n + 1)).1 + 1 + (dr (dr s.1 (n + 1)).2 n).1) % (n + 1)) (dr s.1 (n + 1)).1)] else []) := rfl
    rw [hst]
    refine sq_asg (ev_draw (q := s.1) (R := [(l, oL Ro s.2)]) (ea_cons (ev_var rfl) (ea_cons (ev_op (ev_var rfl) (ev_int) rv_add) ea_nil)) (by omega) (by omega)) ?_
    refine sq_asg (ev_op (ev_op (ev_op (ev_var rfl) (ev_int) rv_add) (ev_draw (q := (dr s.1 (n + 1)).2) (R := [(l, oL Ro s.2)]) (ea_cons (ev_var rfl) (ea_cons (ev_var rfl) ea_nil)) (by omega) (by omega)) rv_add) (ev_op (ev_var rfl) (ev_int) rv_add) (rv_mod (by omega))) ?_
    generalize ((dr s.1 (n + 1)).1 + 1 + (dr (dr s.1 (n + 1)).2 n).1) % (n + 1) = lo at hlo0 hlo1 ⊢
    have hlen : ∀ z ∈ [one, two], (0 : Int) ≤ 0 ∧ (dr s.1 (n + 1)).1 < z.length ∧ lo < z.length := fun z hz => by
      simp at hz
      rcases hz with rfl | rfl <;> omega
    have hlen : ∀ z ∈ [one, two], And ((dr s.1 (n + 1)).1 < z.length) (lo < z.length) := fun z hz => (hlen z hz).2
    refine sq_asg (P := I (iget rooms6 (dr (dr (dr s.1 (n + 1)).2 n).2 6).1)) (ev_op (ev_lst I rooms6 (ea_cons (ev_int) (ea_cons (ev_int) (ea_cons (ev_int) (ea_cons (ev_int) (ea_cons (ev_int) (ea_cons (Ev.cast (P1 := I 100000000000000000) (ev_op (ev_int) (ev_int) (rv_pow ⟨by decide, by decide, by decide⟩)) rfl) ea_nil)))))) rfl (by decide)) (ev_draw (q := (dr (dr s.1 (n + 1)).2 n).2) (R := [(l, oL Ro s.2)]) (ea_cons (ev_var rfl) (ea_cons (ev_int) ea_nil)) (by decide) (by decide)) (rv_ixL (iget_at he.1 (by show _ < ((6 : Nat) : Int); exact he.2)))) ?_
    refine sq_app (f := Ro) (xs := s.2) (x := ((dr s.1 (n + 1)).1, lo, gap one two (dr s.1 (n + 1)).1 lo + iget rooms6 (dr (dr (dr s.1 (n + 1)).2 n).2 6).1)) (ev_var rfl) (Ev.perm (ev_tup (ea_cons (ev_var rfl) (ea_cons (ev_var rfl) (ea_cons (ev_op (ev_cb (ea_cons (ev_lcA (ζ := List Int) I (fun h : List Int => iget h (dr s.1 (n + 1)).1 - iget h lo) (fun y => [some (At p), some (L (L I) [one, two]), some (I m), some (At l), some (I n), some (I z), some (I (dr s.1 (n + 1)).1), some (I lo), some (I (iget rooms6 (dr (dr (dr s.1 (n + 1)).2 n).2 6).1)), some (L I y)]) (src_list (ev_var rfl)) (fun z _ => tg_name) (fun y hy O => (ev_op (ev_op (ev_var rfl) (ev_var rfl) (rv_ixL (iget_at ha.1 (hlen y hy).1))) (ev_op (ev_var rfl) (ev_var rfl) (rv_ixL (iget_at hlo0 (hlen y hy).2))) rv_sub)) (by show 2 < 100000; decide)) ea_nil) (rc_max (by simp))) (ev_var rfl) rv_add) ea_nil)))) pmA) ⟨_, _, List.mem_append_right _ (List.mem_cons_self ..), rfl⟩ (by omega) ?_
    refine go_perm (O' := PlOw p lc (dr (dr (dr s.1 (n + 1)).2 n).2 6).2 ++ [(l, oL Ro (s.2 ++ [((dr s.1 (n + 1)).1, lo, gap one two (dr s.1 (n + 1)).1 lo + iget rooms6 (dr (dr (dr s.1 (n + 1)).2 n).2 6).1)]))]) pmA ?_
    refine go_ifC (et_test (ev_op (ev_draw (q := (dr (dr (dr s.1 (n + 1)).2 n).2 6).2) (R := [(l, oL Ro (s.2 ++ [((dr s.1 (n + 1)).1, lo, gap one two (dr s.1 (n + 1)).1 lo + iget rooms6 (dr (dr (dr s.1 (n + 1)).2 n).2 6).1)]))]) (ea_cons (ev_var rfl) (ea_cons (ev_int) ea_nil)) (by decide) (by decide)) (ev_int) rv_eq)) (fun h => ?_) fun h => ?_
    · rw [if_pos (of_decide_eq_true h)]
      refine go_app (f := Ro) (xs := s.2 ++ [((dr s.1 (n + 1)).1, lo, gap one two (dr s.1 (n + 1)).1 lo + iget rooms6 (dr (dr (dr s.1 (n + 1)).2 n).2 6).1)]) (x := (lo, (dr s.1 (n + 1)).1, gap one two lo (dr s.1 (n + 1)).1)) (ev_var rfl) (Ev.perm (ev_tup (ea_cons (ev_var rfl) (ea_cons (ev_var rfl) (ea_cons (ev_cb (ea_cons (ev_lcA (ζ := List Int) I (fun h : List Int => iget h lo - iget h (dr s.1 (n + 1)).1) (fun y => [some (At p), some (L (L I) [one, two]), some (I m), some (At l), some (I n), some (I z), some (I (dr s.1 (n + 1)).1), some (I lo), some (I (iget rooms6 (dr (dr (dr s.1 (n + 1)).2 n).2 6).1)), some (L I y)]) (src_list (ev_var rfl)) (fun z _ => tg_name) (fun y hy O => (ev_op (ev_op (ev_var rfl) (ev_var rfl) (rv_ixL (iget_at hlo0 (hlen y hy).2))) (ev_op (ev_var rfl) (ev_var rfl) (rv_ixL (iget_at ha.1 (hlen y hy).1))) rv_sub)) (by show 2 < 100000; decide)) ea_nil) (rc_max (by simp))) ea_nil)))) pmA) ⟨_, _, List.mem_append_right _ (List.mem_cons_self ..), rfl⟩ (by rw [List.length_append]; simp; omega) ?_
      rw [List.append_assoc]
      exact nx_perm pmA (nx_pst (.yes rfl (.yes rfl (.yes rfl (.yes rfl (.yes rfl (.no (.no (.no (.no (.no .nil)))))))))))
    · rw [if_neg (of_decide_eq_false h)]
      exact nx_pst (.yes rfl (.yes rfl (.yes rfl (.yes rfl (.yes rfl (.no (.no (.no (.no (.no .nil))))))))))
  · rw [rg_length]
    have e0 : ((dr q m).1 - 0).toNat = (dr q m).1.toNat := by omega
    rw [e0]
    refine go_perm pmA.symm ?_
    refine go_free (i := 3) rfl ?_
    exact goX () k (ev_var rfl) rfl (List.append_nil _).symm

abbrev N_law_slips : List PySem.Str := ["_law_pool_here", "_law_high", "_law_wide", "_law_rest", "_law_slips_here", "_law_turn", "_law_climber", "_law_to"]
theorem sc_law_slips : FnScope N_law_slips ["_law_pool_here", "_law_high", "_law_wide"] (defScope s__law_slips) := ⟨rfl, rfl, rfl, by decide +kernel, rfl, by decide +kernel, by decide +kernel⟩
abbrev sp_law_slips (K : PySem.W.Frag) : Sp := Spx (β := Unit) (fun a : Addr × Addr × Pl × Int × List Int × Bool => 1 ≤ a.2.2.2.1 ∧ a.2.2.2.1 ≤ 8 ∧ (a.2.2.2.2.1.length : Int) = a.2.2.2.1 + 1) (fun a => [At a.1, L I a.2.2.2.2.1, Bo a.2.2.2.2.2]) (fun a => PlOw a.1 a.2.1 a.2.2.1) (fun a _ => L PII (slips a.2.2.1 a.2.2.2.2.1 a.2.2.2.2.2).sl) (fun a _ => PlOw a.1 a.2.1 (slips a.2.2.1 a.2.2.2.2.1 a.2.2.2.2.2).q)
theorem ok_law_slips (W : Wd K mg) : Fn Pg w K mg base 3 "_law_slips" (sp_law_slips K) [] := by
  obtain ⟨fd, F⟩ := W.says.def_ 49 (d := d__law_slips) rfl
  refine ⟨_, fd, ["_law_pool_here", "_law_high", "_law_wide"], [], fn_ok F sc_law_slips (fun _ => rfl) (by decide) ?_, W.g 49 _ rfl, F.kp, FunD.bindsN F (fun _ _ _ _ _ _ us hl => match us, hl with | [_, _, _], _ => rfl), .nil⟩
  rintro cdv A outer s H E hr ⟨p, lc, q, n, hg, w⟩ hp
  try dsimp only at hp
  refine ⟨_, (pss_cons (ps_set (i := 3) sc_law_slips.nd rfl (by first | exact Or.inl rfl | exact Or.inr rfl) (pe_listRg rfl (by rfl) (W.z 63 _ rfl) (prg_2 (by rfl) (W.z 68 _ rfl) (pe_int) (pe_callB (r := rLenQ K) call_len_seq (by rfl) (W.z 60 _ rfl) PySem.boot_len (pa_cons (pv 1) pa_nil)))))
      (pss_cons (ps_set (i := 4) sc_law_slips.nd rfl (by first | exact Or.inl rfl | exact Or.inr rfl) (pe_lst pa_nil))
      (pss_cons (ps_for PassesOwn.never rfl (pi_range1 (by rfl) (W.z 68 _ rfl) (pa_cons (pe_fn (ok_law_draw W) (hr.mono (by decide)) (by rfl) (pa_cons (pv 0) (pa_cons (pe_callB (r := rLenQ K) call_len_seq (by rfl) (W.z 60 _ rfl) PySem.boot_len (pa_cons (pv 1) pa_nil)) pa_nil))) pa_nil)) (pg_name (i := 5) sc_law_slips.nd rfl (by first | exact Or.inl rfl | exact Or.inr rfl)) (pss_cons (ps_set (i := 6) sc_law_slips.nd rfl (by first | exact Or.inl rfl | exact Or.inr rfl) (pe_bm PySem.F.plainAttrs_list PySem.F.slot_list_pop PySem.F.type_list_pop mt_popAt (pv 3) (pa_cons (pe_fn (ok_law_draw W) (hr.mono (by decide)) (by rfl) (pa_cons (pv 0) (pa_cons (pe_callB (r := rLenQ K) call_len_seq (by rfl) (W.z 60 _ rfl) PySem.boot_len (pa_cons (pv 3) pa_nil)) pa_nil))) pa_nil)))
      (pss_cons (ps_set (i := 7) sc_law_slips.nd rfl (by first | exact Or.inl rfl | exact Or.inr rfl) (pe_op op_sub (pe_op op_add (pe_ix (r := rIxL K) ix_list (pv 1) (pv 6) (fun _ _ => rfl)) (pe_int)) (pe_fn (ok_law_draw W) (hr.mono (by decide)) (by rfl) (pa_cons (pv 0) (pa_cons (pe_int) pa_nil)))))
      (pss_cons (ps_if (pt_val (pv 2)) (pss_one (ps_set (i := 7) sc_law_slips.nd rfl (by first | exact Or.inl rfl | exact Or.inr rfl) (pe_fn (ok_law_number W) (hr.mono (by decide)) (by rfl) (pa_cons (pv 0) (pa_cons (pe_bl) pa_nil))))) pss_nil)
      (pss_one (ps_expr (pe_bm PySem.F.plainAttrs_list PySem.F.slot_list_append PySem.F.type_list_append mt_append (pv 4) (pa_cons (pe_tup (pa_cons (pv 6) (pa_cons (pv 7) pa_nil))) pa_nil))))))))
      (pss_one (ps_ret (pv 4)))))), fun b Q sb k => ?_⟩
  try dsimp only
  try dsimp only at k
  obtain ⟨n1, n8, hl⟩ := hp
  have hk := dr_rng q (m := hg.length) (by omega)
  have hs0 : okSit n 0 ⟨(dr q hg.length).2, rg 1 hg.length, []⟩ := by
    rw [hl]
    exact okSit.start _ (by omega)
  refine go_perm (O' := PlOw p lc q ++ []) (by rw [List.append_nil]) ?_
  refine sq_asgX (evx_lstRg2 (ev_int) (ev_cb (ea_cons (ev_var rfl) ea_nil) rc_lenL) (by decide) (by decide) (by omega) (by omega)) fun l1 => ?_
  refine sq_asgX (evx_lst PII [] ea_nil) fun l2 => ?_
  refine go_perm (O' := PlOw p lc q ++ [(l1, oL I (rg 1 hg.length)), (l2, oL PII [])]) (by rw [List.append_nil]; exact pmB.trans (List.Perm.cons _ (by simpa using (List.perm_append_comm (l₁ := PlOw p lc q) (l₂ := [(l1, oL I (rg 1 hg.length))]))))) ?_
  refine sq_for (vs := [5]) (src_rng1 (ea_cons (ev_draw (q := q) (R := [(l1, oL I (rg 1 hg.length)), (l2, oL PII [])]) (ea_cons (ev_var rfl) (ea_cons (ev_cb (ea_cons (ev_var rfl) ea_nil) rc_lenL) ea_nil)) (by omega) (by omega)) ea_nil) (by omega) (by omega)) (fun t => [some (At p), some (L I hg), some (Bo w), some (At l1), some (At l2), none, none, none]) (fun t => PlOw p lc (sit hg w ⟨(dr q hg.length).2, rg 1 hg.length, []⟩ t).q ++ [(l1, oL I (sit hg w ⟨(dr q hg.length).2, rg 1 hg.length, []⟩ t).rest), (l2, oL PII (sit hg w ⟨(dr q hg.length).2, rg 1 hg.length, []⟩ t).sl)]) (fun t z => [some (At p), some (L I hg), some (Bo w), some (At l1), some (At l2), some (I z), none, none]) (.yes rfl (.yes rfl (.yes rfl (.yes rfl (.yes rfl (.no (.no (.no .nil)))))))) rfl (fun i z hz => tg_name) (fun b1 r1 t z hz => ?_) ?_
  · have ht := (rg_get hz).2
    have htn : (t : Int) < n := by omega
    have hi := okSit.it (hg := hg) (w := w) hs0 t (by omega)
    have hn1 : sit hg w ⟨(dr q hg.length).2, rg 1 hg.length, []⟩ (t + 1) = sstep hg w (sit hg w ⟨(dr q hg.length).2, rg 1 hg.length, []⟩ t) := rfl
    rw [hn1]
    generalize sit hg w ⟨(dr q hg.length).2, rg 1 hg.length, []⟩ t = s at hi ⊢
    obtain ⟨_, ha0, ha1⟩ := okSit.step (hg := hg) (w := w) hi htn
    have hrl := hi.len
    have hsl := hi.sl
    have hj : (dr s.q s.rest.length).1.toNat < s.rest.length := by omega
    have hx : s.rest[(dr s.q s.rest.length).1.toNat]? = some (iget s.rest (dr s.q s.rest.length).1) := by
      unfold iget
      rw [List.getD_eq_getElem?_getD, List.getElem?_eq_getElem hj]
      rfl
    have hc := hi.rng _ (List.mem_of_getElem? hx)
    refine sq_asg (ev_popAt (f := I) (xs := s.rest) (O1 := PlOw p lc s.q ++ [(l1, oL I s.rest), (l2, oL PII s.sl)]) (i := (dr s.q s.rest.length).1) (j := (dr s.q s.rest.length).1.toNat) (ev_var rfl) (List.mem_append_right _ (List.mem_cons_self ..)) (Ev.perm (ev_draw (q := s.q) (R := [(l1, oL I s.rest), (l2, oL PII s.sl)]) (ea_cons (ev_var rfl) (ea_cons (ev_cb (ea_cons (ev_var rfl) ea_nil) (rc_lenO (f := I) (xs := s.rest) (List.mem_append_right _ (List.mem_cons_self ..)))) ea_nil)) (by omega) (by omega)) pmA) (by unfold ixN; rw [if_pos ha0, if_pos ha1]) hx (by omega) (by omega)) ?_
    refine go_perm (O' := PlOw p lc (dr s.q s.rest.length).2 ++ [(l1, oL I (s.rest.eraseIdx (dr s.q s.rest.length).1.toNat)), (l2, oL PII s.sl)]) pmA ?_
    refine sq_asg (P := I (iget hg (iget s.rest (dr s.q s.rest.length).1) + 2 - (dr (dr s.q s.rest.length).2 12).1)) (ev_op (ev_op (ev_op (ev_var rfl) (ev_var rfl) (rv_ixL (iget_at (by omega) (by omega)))) (ev_int) rv_add) (ev_draw (q := (dr s.q s.rest.length).2) (R := [(l1, oL I (s.rest.eraseIdx (dr s.q s.rest.length).1.toNat)), (l2, oL PII s.sl)]) (ea_cons (ev_var rfl) (ea_cons (ev_int) ea_nil)) (by decide) (by decide)) rv_sub) ?_
    cases w with
    | false =>
      have hst : sstep hg false s = ⟨(dr (dr s.q s.rest.length).2 12).2, s.rest.eraseIdx (dr s.q s.rest.length).1.toNat, s.sl ++ [(iget s.rest (dr s.q s.rest.length).1, iget hg (iget s.rest (dr s.q s.rest.length).1) + 2 - (dr (dr s.q s.rest.length).2 12).1)]⟩ := rfl
      rw [hst]
      refine sq_no (et_B (ev_var (P := Bo false) rfl)) rfl ?_
      refine go_app (f := PII) (xs := s.sl) (x := (iget s.rest (dr s.q s.rest.length).1, iget hg (iget s.rest (dr s.q s.rest.length).1) + 2 - (dr (dr s.q s.rest.length).2 12).1)) (ev_var rfl) (Ev.perm (ev_tup (ea_cons (ev_var rfl) (ea_cons (ev_var rfl) ea_nil))) pmB) ⟨_, _, List.mem_append_right _ (List.mem_cons_of_mem _ (List.mem_cons_self ..)), rfl⟩ (by omega) (nx_perm pmB (nx_pst (.yes rfl (.yes rfl (.yes rfl (.yes rfl (.yes rfl (.no (.no (.no .nil))))))))))
    | true =>
      have hst : sstep hg true s = ⟨(nb (dr (dr s.q s.rest.length).2 12).2 true).2, s.rest.eraseIdx (dr s.q s.rest.length).1.toNat, s.sl ++ [(iget s.rest (dr s.q s.rest.length).1, (nb (dr (dr s.q s.rest.length).2 12).2 true).1)]⟩ := rfl
      rw [hst]
      refine sq_if (c := true) (et_B (ev_var (P := Bo true) rfl)) (fun _ => ?_) fun h => by cases h
      refine go_asg (ev_number (q := (dr (dr s.q s.rest.length).2 12).2) (R := [(l1, oL I (s.rest.eraseIdx (dr s.q s.rest.length).1.toNat)), (l2, oL PII s.sl)]) (ea_cons (ev_var rfl) (ea_cons (ev_bl) ea_nil))) ?_
      exact go_app (f := PII) (xs := s.sl) (x := (iget s.rest (dr s.q s.rest.length).1, (nb (dr (dr s.q s.rest.length).2 12).2 true).1)) (ev_var rfl) (Ev.perm (ev_tup (ea_cons (ev_var rfl) (ea_cons (ev_var rfl) ea_nil))) pmB) ⟨_, _, List.mem_append_right _ (List.mem_cons_of_mem _ (List.mem_cons_self ..)), rfl⟩ (by omega) (nx_perm pmB (nx_pst (.yes rfl (.yes rfl (.yes rfl (.yes rfl (.yes rfl (.no (.no (.no .nil))))))))))
  · rw [rg_length]
    have e0 : ((dr q hg.length).1 - 0).toNat = (dr q hg.length).1.toNat := by omega
    rw [e0]
    refine go_perm pmB.symm ?_
    refine go_free (i := 4) rfl ?_
    refine sq_less (O' := PlOw p lc (slips q hg w).q) (fun x hx => List.mem_append_left _ hx) (fun hn => ?_) ?_
    · unfold ad at hn
      rw [List.map_append, List.nodup_append] at hn
      exact hn.1
    · exact goX () k (ev_var rfl) rfl rfl

abbrev N_law_filled : List PySem.Str := ["_law_pool_here", "_law_ropes_here", "_law_found", "_law_turn", "_law_rope"]
theorem sc_law_filled : FnScope N_law_filled ["_law_pool_here", "_law_ropes_here"] (defScope s__law_filled) := ⟨rfl, rfl, rfl, by decide +kernel, rfl, by decide +kernel, by decide +kernel⟩
abbrev sp_law_filled (K : PySem.W.Frag) : Sp := Spx (β := Unit) (fun a : Addr × Addr × Pl × List Rope => 1 ≤ a.2.2.2.length ∧ a.2.2.2.length ≤ 60) (fun a => [At a.1, L Ro a.2.2.2]) (fun a => PlOw a.1 a.2.1 a.2.2.1) (fun a _ => L Ro (filled a.2.2.1 a.2.2.2).2) (fun a _ => PlOw a.1 a.2.1 (filled a.2.2.1 a.2.2.2).1)
theorem ok_law_filled (W : Wd K mg) : Fn Pg w K mg base 2 "_law_filled" (sp_law_filled K) [] := by
  obtain ⟨fd, F⟩ := W.says.def_ 55 (d := d__law_filled) rfl
  refine ⟨_, fd, ["_law_pool_here", "_law_ropes_here"], [], fn_ok F sc_law_filled (fun _ => rfl) (by decide) ?_, W.g 55 _ rfl, F.kp, FunD.bindsN F (fun _ _ _ _ _ _ us hl => match us, hl with | [_, _], _ => rfl), .nil⟩
  rintro cdv A outer s H E hr ⟨p, lc, q, rs⟩ hp
  try dsimp only at hp
  refine ⟨_, (pss_cons (ps_set (i := 2) sc_law_filled.nd rfl (by first | exact Or.inl rfl | exact Or.inr rfl) (pe_callTy (r := rListQ K) call_list_of (by rfl) (W.z 63 _ rfl) (by decide +kernel) (pa_cons (pv 1) pa_nil)))
      (pss_cons (ps_for PassesOwn.never rfl (pi_range1 (by rfl) (W.z 68 _ rfl) (pa_cons (pe_op op_sub (pe_int) (pe_callB (r := rLenQ K) call_len_seq (by rfl) (W.z 60 _ rfl) PySem.boot_len (pa_cons (pv 1) pa_nil))) pa_nil)) (pg_name (i := 3) sc_law_filled.nd rfl (by first | exact Or.inl rfl | exact Or.inr rfl)) (pss_cons (ps_set (i := 4) sc_law_filled.nd rfl (by first | exact Or.inl rfl | exact Or.inr rfl) (pe_ix (r := rIxL K) ix_list (pv 1) (pe_fn (ok_law_draw W) (hr.mono (by decide)) (by rfl) (pa_cons (pv 0) (pa_cons (pe_callB (r := rLenQ K) call_len_seq (by rfl) (W.z 60 _ rfl) PySem.boot_len (pa_cons (pv 1) pa_nil)) pa_nil))) (fun _ _ => rfl)))
      (pss_one (ps_expr (pe_bm PySem.F.plainAttrs_list PySem.F.slot_list_append PySem.F.type_list_append mt_append (pv 2) (pa_cons (pe_tup (pa_cons (pe_ix (r := rIxT K) ix_tup (pv 4) (pe_int) (fun _ _ => rfl)) (pa_cons (pe_ix (r := rIxT K) ix_tup (pv 4) (pe_int) (fun _ _ => rfl)) (pa_cons (pe_op op_add (pe_ix (r := rIxT K) ix_tup (pv 4) (pe_int) (fun _ _ => rfl)) (pe_fn (ok_law_draw W) (hr.mono (by decide)) (by rfl) (pa_cons (pv 0) (pa_cons (pe_int) pa_nil)))) pa_nil)))) pa_nil))))))
      (pss_one (ps_ret (pv 2))))), fun b Q sb k => ?_⟩
  try dsimp only
  try dsimp only at k
  obtain ⟨r1, r60⟩ := hp
  refine go_perm (O' := PlOw p lc q ++ []) (by rw [List.append_nil]) ?_
  refine sq_asgX (evx_list (ea_cons (ev_var rfl) ea_nil)) fun l => ?_
  refine go_perm (O' := PlOw p lc q ++ [(l, oL Ro rs)]) pmA ?_
  refine sq_for (vs := [3]) (src_rng1 (ea_cons (ev_op (ev_int) (ev_cb (ea_cons (ev_var rfl) ea_nil) rc_lenL) rv_sub) ea_nil) (by omega) (by omega)) (fun t => [some (At p), some (L Ro rs), some (At l), none, none]) (fun t => PlOw p lc (fit rs (q, rs) t).1 ++ [(l, oL Ro (fit rs (q, rs) t).2)]) (fun t z => [some (At p), some (L Ro rs), some (At l), some (I z), none]) (.yes rfl (.yes rfl (.yes rfl (.no (.no .nil))))) rfl (fun i z hz => tg_name) (fun b1 r1 t z hz => ?_) ?_
  · have hl := fit_len rs (q, rs) t
    have ht := (rg_get hz).2
    have hn1 : fit rs (q, rs) (t + 1) = fstep rs (fit rs (q, rs) t) := rfl
    rw [hn1]
    generalize fit rs (q, rs) t = s at hl ⊢
    simp only at hl
    have ha := dr_rng s.1 (m := rs.length) (by omega)
    have hst : fstep rs s = ((dr (dr s.1 rs.length).2 3).2, s.2 ++ [((rp rs (dr s.1 rs.length).1).1, (rp rs (dr s.1 rs.length).1).2.1, (rp rs (dr s.1 rs.length).1).2.2 + (dr (dr s.1 rs.length).2 3).1)]) := rfl
    rw [hst]
    refine sq_asg (P := Ro (rp rs (dr s.1 rs.length).1)) (ev_op (ev_var rfl) (ev_draw (q := s.1) (R := [(l, oL Ro s.2)]) (ea_cons (ev_var rfl) (ea_cons (ev_cb (ea_cons (ev_var rfl) ea_nil) rc_lenL) ea_nil)) (by omega) (by omega)) (rv_ixL (rp_at ha.1 ha.2))) ?_
    exact go_app (f := Ro) (xs := s.2) (x := ((rp rs (dr s.1 rs.length).1).1, (rp rs (dr s.1 rs.length).1).2.1, (rp rs (dr s.1 rs.length).1).2.2 + (dr (dr s.1 rs.length).2 3).1)) (ev_var rfl) (Ev.perm (ev_tup (ea_cons (ev_op (ev_var rfl) (ev_int) (rv_ixT rfl)) (ea_cons (ev_op (ev_var rfl) (ev_int) (rv_ixT rfl)) (ea_cons (ev_op (ev_op (ev_var rfl) (ev_int) (rv_ixT (f := fun P : HP => P) (x := I (rp rs (dr s.1 rs.length).1).2.2) rfl)) (ev_draw (q := (dr s.1 rs.length).2) (R := [(l, oL Ro s.2)]) (ea_cons (ev_var rfl) (ea_cons (ev_int) ea_nil)) (by decide) (by decide)) rv_add) ea_nil)))) pmA) ⟨_, _, List.mem_append_right _ (List.mem_cons_self ..), rfl⟩ (by omega) (nx_perm pmA (nx_pst (.yes rfl (.yes rfl (.yes rfl (.no (.no .nil)))))))
  · rw [rg_length]
    have e0 : (60 - (rs.length : Int) - 0).toNat = 60 - rs.length := by omega
    rw [e0]
    refine go_perm pmA.symm ?_
    refine go_free (i := 2) rfl ?_
    exact goX () k (ev_var rfl) rfl (List.append_nil _).symm

end
end Rb

set_option Elab.async false
set_option linter.all false
set_option maxRecDepth 100000
set_option maxHeartbeats 4000000
/-! The law, in plain Lean. -/
namespace Rb
open PySem PySem.Spec PyProof.Rows L2
def lq0 (ns : List Int) : Pl := ⟨0, cutS ns 63, 12345, 0⟩
def ln (ns : List Int) : Int := 1 + (dr (lq0 ns) 8).1
def lq1 (ns : List Int) : Pl := (dr (lq0 ns) 8).2
def lw (ns : List Int) : Bool := decide ((dr (lq1 ns) 3).1 = 0)
def lq2 (ns : List Int) : Pl := (dr (lq1 ns) 3).2
def lh (ns : List Int) : Hgs := hgs (lq2 ns) (ln ns) (lw ns)
def lR (ns : List Int) : Pl × List Rope := ropes (lh ns).q (lh ns).one (lh ns).two (ln ns) 16
def lrs (ns : List Int) : List Rope := (lR ns).2
def lF (ns : List Int) : Pl × List Rope := if (lrs ns).isEmpty = true then ((lR ns).1, lrs ns) else if (dr (lR ns).1 3).1 = 0 then filled (dr (lR ns).1 3).2 (lrs ns) else ((dr (lR ns).1 3).2, lrs ns)
def lrs2 (ns : List Int) : List Rope := (lF ns).2
def lhg (ns : List Int) (i : Nat) : List Int := if i = 0 then (lh ns).one else (lh ns).two
def lqs (ns : List Int) : Nat → Pl
  | 0 => (lF ns).1
  | i + 1 => (slips (lqs ns i) (neg (lhg ns i)) (lw ns)).q
def lS (ns : List Int) (i : Nat) : Slips := (slips (lqs ns i) (neg (lhg ns i)) (lw ns)).sl
/-- what a turn of the law wants -/
structure okTurn (n : Int) (rs rs2 : List Rope) (hg : List Int) (S : Slips) : Prop where
  len : (hg.length : Int) = n + 1
  sl : S.length ≤ 8
  e : negS (negS S) = S
  bare : okRs n rs ∧ isSt n rs (hg.drop 1) ∧ okSl n (negS S) ∧ okF n (turned rs) (neg (hg.drop 1)) (negS (negS S))
  full : okRs n rs2 ∧ isSt n rs2 (hg.drop 1) ∧ okSl n (negS S) ∧ okF n (turned rs2) (neg (hg.drop 1)) (negS (negS S))
  same : neg (f_hs n (turned rs) (neg (hg.drop 1)) (negS (negS S))) = neg (f_hs n (turned rs2) (neg (hg.drop 1)) (negS (negS S)))
  chk : okRs n rs2 ∧ isSt n rs2 (hg.drop 1) ∧ okSl n (negS S) ∧ isSt n rs2 (neg (f_hs n (turned rs2) (neg (hg.drop 1)) (negS (negS S)))) ∧ ((revS (m_stops n (turned rs2) (negS (negS S)))).map (·.1)).Nodup ∧
    okIs n (turned rs2) (neg (hg.drop 1)) (negS (negS S)) (neg (neg (f_hs n (turned rs2) (neg (hg.drop 1)) (negS (negS S))))) (f_pulls n (turned rs2) (neg (hg.drop 1)) (negS (negS S))) (revS (revS (m_stops n (turned rs2) (negS (negS S)))))
  lawr : okRs n rs2 ∧ (hg.length : Int) = n + 1 ∧ (negS S).length ≤ 8 ∧ (neg (f_hs n (turned rs2) (neg (hg.drop 1)) (negS (negS S)))).length ≤ 8 ∧ ((revS (m_stops n (turned rs2) (negS (negS S)))).map (·.1)).Nodup ∧ (revS (m_stops n (turned rs2) (negS (negS S)))).length ≤ 8 ∧
    okLF n (turned rs2) (fun i j => Df0 n rs2 j i) (neg hg) (negS (negS S)) (neg (neg (f_hs n (turned rs2) (neg (hg.drop 1)) (negS (negS S))))) (f_pulls n (turned rs2) (neg (hg.drop 1)) (negS (negS S))) (revS (revS (m_stops n (turned rs2) (negS (negS S)))))
structure okLaw (ns : List Int) : Prop where
  h1 : ((lh ns).one.length : Int) = ln ns + 1
  h2 : ((lh ns).two.length : Int) = ln ns + 1
  rs : okRs (ln ns) (lrs ns)
  rs2 : okRs (ln ns) (lrs2 ns)
  turn : ∀ i, i < 2 → okTurn (ln ns) (lrs ns) (lrs2 ns) (lhg ns i) (lS ns i)
section
variable {b : Bs} {G : List (Option HP)} {O O1 O2 : List Ow} {tt tu : TT}
theorem et_andT {d : Bool} (h1 : EvT b tt G O true O1) (h2 : EvT b tu G O1 d O2) : EvT b (tAnd tt tu) G O d O2 := by
  have := et_andM h1 (fun _ => h2)
  simpa using this
end
theorem triples_shaped (rs : List Rope) : SeqAt.shaped (.list (rs.map fun z => PyData.tuple [.int z.1, .int z.2.1, .int z.2.2])) = true := by
  have h1 : PyData.canLayAll0 (rs.map fun z => PyData.tuple [.int z.1, .int z.2.1, .int z.2.2]) = true := by
    induction rs with
    | nil => rfl
    | cons n ns ih => simpa [PyData.canLayAll0, PyData.canLay0] using ih
  have h2 : PyData.depthAll (rs.map fun z => PyData.tuple [.int z.1, .int z.2.1, .int z.2.2]) ≤ 1 := by
    clear h1
    induction rs with
    | nil => simp [PyData.depthAll]
    | cons n ns ih =>
      simp [PyData.depthAll, PyData.depth]
      omega
  simp [SeqAt.shaped, PyData.canLay0, PyData.depth, h1]
  omega
theorem ln_rng (ns : List Int) : 1 ≤ ln ns ∧ ln ns ≤ 8 := by
  have := dr_rng (lq0 ns) (m := 8) (by decide)
  unfold ln
  omega
theorem neg_drop (l : List Int) : (neg l).drop 1 = neg (l.drop 1) := by unfold neg; rw [List.map_drop]
theorem perm3r {α : Type} (x y z : α) : [z, y, x].Perm [x, y, z] := List.reverse_perm [x, y, z]
theorem perm3h {α : Type} (x y z : α) (A : List α) : ([x, y, z] ++ A).Perm (z :: ([x, y] ++ A)) := (perm3 x y z).symm.append_right A
theorem perm3i {α : Type} (l x y : α) (A : List α) : (l :: ([x, y] ++ A)).Perm (y :: l :: x :: A) := (perm3 l x y).symm.append_right A
theorem perm3j {α : Type} (l x y : α) (A : List α) : (l :: x :: y :: A).Perm (y :: l :: x :: A) := (perm3 l x y).symm.append_right A
theorem neg_neg (l : List Int) : neg (neg l) = l := by
  unfold neg
  rw [List.map_map]
  have : ((fun h : Int => 0 - h) ∘ fun h => 0 - h) = id := by
    funext x
    simp
  rw [this, List.map_id]
theorem negS_negS (l : Slips) : negS (negS l) = l := by
  unfold negS
  rw [List.map_map]
  have : ((fun z : Int × Int => (z.1, 0 - z.2)) ∘ fun z => (z.1, 0 - z.2)) = id := by
    funext x
    simp
  rw [this, List.map_id]
theorem revS_revS (l : Stops) : revS (revS l) = l := by
  unfold revS
  rw [List.map_map]
  have : ((fun z : Int × List Int => (z.1, z.2.reverse)) ∘ fun z => (z.1, z.2.reverse)) = id := by
    funext x
    simp
  rw [this, List.map_id]
end Rb

set_option Elab.async false
set_option linter.all false
set_option maxRecDepth 100000
set_option maxHeartbeats 4000000
namespace Rb
open PySem PySem.Spec PyProof.Rows L2
section
variable {Pg : Program} {w : World} {K : PySem.W.Frag} {mg : Str → Option Value} {base : Heap}
abbrev N_law : List PySem.Str := ["_law_script", "_law_pool_here", "_law_many", "_law_wide", "_law_highs_here", "_law_ropes_here", "_law_rig", "_law_bare", "_law_dist_here", "_law_turn", "_law_high", "_law_over", "_law_slips_here", "_law_lifts", "_law_handed", "_law_found", "_law_one", "_law_slip"]
theorem sc_law : FnScope N_law ["_law_script"] (defScope s_law) := ⟨rfl, rfl, rfl, by decide +kernel, rfl, by decide +kernel, by decide +kernel⟩
abbrev sp_law (K : PySem.W.Frag) : Sp := SpP (fun ns : List Int => okLaw ns) (fun ns => [Sc K ns]) (fun _ => Bo true)
theorem law_fn (W : Wd K mg) {fd : FuncData} (F : FunD K d_law.name d_law.qual d_law.params d_law.body d_law.scope (He.DefD.dvs K d_law) (He.DefD.kws K d_law) (He.fAd K d_law.at_) fd) : FnOk Pg w K mg base CX0 11 (He.fAd K d_law.at_) fd ["_law_script"] (sp_law K) := by
  refine fn_ok F sc_law (fun _ => rfl) (by decide) ?_
  rintro cdv A outer s H E hr ns hp
  try dsimp only at hp
  have hu : (cxOf CX0 Pg w K mg base N_law "law" (defScope s_law) (He.fAd K d_law.at_) cdv A outer s H E).nox.A.units + 1 < cLine := hu_of hr
  have hu64 : (cxOf CX0 Pg w K mg base N_law "law" (defScope s_law) (He.fAd K d_law.at_) cdv A outer s H E).nox.A.units + 64 < cLine := hu64_of hr
  refine ⟨_, (pss_cons (ps_set (i := 1) sc_law.nd rfl (by first | exact Or.inl rfl | exact Or.inr rfl) (pe_fn (ok_law_pool W) (hr.mono (by decide)) (by rfl) (pa_cons (pv 0) pa_nil)))
      (pss_cons (ps_set (i := 2) sc_law.nd rfl (by first | exact Or.inl rfl | exact Or.inr rfl) (pe_op op_add (pe_int) (pe_fn (ok_law_draw W) (hr.mono (by decide)) (by rfl) (pa_cons (pv 1) (pa_cons (pe_int) pa_nil)))))
      (pss_cons (ps_set (i := 3) sc_law.nd rfl (by first | exact Or.inl rfl | exact Or.inr rfl) (pe_cmpR op_eq (pe_fn (ok_law_draw W) (hr.mono (by decide)) (by rfl) (pa_cons (pv 1) (pa_cons (pe_int) pa_nil))) (pe_int) (nomark _)))
      (pss_cons (ps_set (i := 4) sc_law.nd rfl (by first | exact Or.inl rfl | exact Or.inr rfl) (pe_fn (ok_law_highs W) (hr.mono (by decide)) (by rfl) (pa_cons (pv 1) (pa_cons (pv 2) (pa_cons (pv 3) pa_nil)))))
      (pss_cons (ps_set (i := 5) sc_law.nd rfl (by first | exact Or.inl rfl | exact Or.inr rfl) (pe_fn (ok_law_ropes W) (hr.mono (by decide)) (by rfl) (pa_cons (pv 1) (pa_cons (pv 4) (pa_cons (pe_int) pa_nil)))))
      (pss_cons (ps_set (i := 6) sc_law.nd rfl (by first | exact Or.inl rfl | exact Or.inr rfl) (pe_mk (ok_Rig_init W) (hr.mono (by decide)) (by rfl) (pa_cons (pv 2) (pa_cons (pe_callTy (r := rListQ K) call_list_of (by rfl) (W.z 63 _ rfl) (by decide +kernel) (pa_cons (pv 5) pa_nil)) pa_nil))))
      (pss_cons (ps_set (i := 7) sc_law.nd rfl (by first | exact Or.inl rfl | exact Or.inr rfl) (pv 6))
      (Evl.pss_cut (ps_if (PW.pt (pw_and (pt_cmpR (r := rNeD K) (op_neD hu64) (pv 5) (pe_lst pa_nil) (nomark _)) (pw_and1 (pt_cmpR op_eq (pe_fn (ok_law_draw W) (hr.mono (by decide)) (by rfl) (pa_cons (pv 1) (pa_cons (pe_int) pa_nil))) (pe_int) (nomark _))))) (pss_cons (ps_set (i := 5) sc_law.nd rfl (by first | exact Or.inl rfl | exact Or.inr rfl) (pe_fn (ok_law_filled W) (hr.mono (by decide)) (by rfl) (pa_cons (pv 1) (pa_cons (pv 5) pa_nil))))
      (pss_one (ps_set (i := 6) sc_law.nd rfl (by first | exact Or.inl rfl | exact Or.inr rfl) (pe_mk (ok_Rig_init W) (hr.mono (by decide)) (by rfl) (pa_cons (pv 2) (pa_cons (pe_callTy (r := rListQ K) call_list_of (by rfl) (W.z 63 _ rfl) (by decide +kernel) (pa_cons (pv 5) pa_nil)) pa_nil)))))) pss_nil)
      (pss_cons (ps_set (i := 8) sc_law.nd rfl (by first | exact Or.inl rfl | exact Or.inr rfl) (pe_fn (ok_law_dist W) (hr.mono (by decide)) (by rfl) (pa_cons (pv 5) (pa_cons (pv 2) pa_nil))))
      (pss_cons (ps_for PassesOwn.never rfl (pi_range1 (by rfl) (W.z 68 _ rfl) (pa_cons (pe_int) pa_nil)) (pg_name (i := 9) sc_law.nd rfl (by first | exact Or.inl rfl | exact Or.inr rfl)) (pss_cons (ps_set (i := 10) sc_law.nd rfl (by first | exact Or.inl rfl | exact Or.inr rfl) (pe_ix (r := rIxL K) ix_list (pv 4) (pv 9) (fun _ _ => rfl)))
      (pss_cons (ps_setLc (i := 11) (own := [("_law_one", 16)]) rfl sc_law.nd rfl rfl (sw_true rfl rfl rfl (by decide +kernel)) (pi_listK (K := K) (pv 10)) (blkOk_by (own := [("_law_one", 16)]) (N := N_law) (sc := defScope s_law) (by decide +kernel)) (fun _ _ _ _ _ => pg_name (i := 16) sc_law.nd rfl (by first | exact Or.inl rfl | exact Or.inr rfl)) (fun _ _ _ _ _ => pts_nil) (fun _ _ _ _ _ => (pe_op op_sub (pe_int) (pv 16))))
      (pss_cons (ps_set (i := 12) sc_law.nd rfl (by first | exact Or.inl rfl | exact Or.inr rfl) (pe_fn (ok_law_slips W) (hr.mono (by decide)) (by rfl) (pa_cons (pv 1) (pa_cons (pv 11) (pa_cons (pv 3) pa_nil)))))
      (pss_cons (ps_setLc (i := 13) (own := [("_law_slip", 17)]) rfl sc_law.nd rfl rfl (sw_true rfl rfl rfl (by decide +kernel)) (pi_listK (K := K) (pv 12)) (blkOk_by (own := [("_law_slip", 17)]) (N := N_law) (sc := defScope s_law) (by decide +kernel)) (fun _ _ _ _ _ => pg_name (i := 17) sc_law.nd rfl (by first | exact Or.inl rfl | exact Or.inr rfl)) (fun _ _ _ _ _ => pts_nil) (fun _ _ _ _ _ => (pe_tup (pa_cons (pe_ix (r := rIxT K) ix_tup (pv 17) (pe_int) (fun _ _ => rfl)) (pa_cons (pe_op op_sub (pe_int) (pe_ix (r := rIxT K) ix_tup (pv 17) (pe_int) (fun _ _ => rfl))) pa_nil)))))
      (pss_cons (ps_set (i := 14) sc_law.nd rfl (by first | exact Or.inl rfl | exact Or.inr rfl) (pe_callTy (r := rListQ K) call_list_of (by rfl) (W.z 63 _ rfl) (by decide +kernel) (pa_cons (pv 13) pa_nil)))
      (pss_cons (ps_set (i := 15) sc_law.nd rfl (by first | exact Or.inl rfl | exact Or.inr rfl) (pe_fn (ok_rise W) (hr.mono (by decide)) (by rfl) (pa_cons (pv 6) (pa_cons (pe_slice (r := rSlL K) sl_list (pv 10) (po_some (pe_int)) po_none) (pa_cons (pv 14) pa_nil)))))
      (pss_cons (ps_if (PW.pt (pw_or (pt_not (pt_val (pe_fn (ok_law_rise W) (hr.mono (by decide)) (by rfl) (pa_cons (pv 5) (pa_cons (pv 8) (pa_cons (pv 10) (pa_cons (pv 13) (pa_cons (pv 15) pa_nil)))))))) (pw_or1 (pt_cmpR (r := rNeD K) (op_neD hu64) (pv 14) (pv 13) (nomark _))))) (pss_one (ps_ret (pe_bl))) pss_nil)
      (pss_cons (ps_if (PW.pt (pw_or (pt_cmpR op_notBl (pe_fn (ok_is_rise W) (hr.mono (by decide)) (by rfl) (pa_cons (pv 6) (pa_cons (pe_slice (r := rSlL K) sl_list (pv 10) (po_some (pe_int)) po_none) (pa_cons (pe_tupleOf (by rfl) (W.z 64 _ rfl) (pv 13)) (pa_cons (pv 15) pa_nil))))) (pe_bl) (nomark _)) (pw_or1 (pt_cmpR (r := rNeD K) (op_neD hu64) (pe_ix (r := rIxT K) ix_tup (pe_fn (ok_rise W) (hr.mono (by decide)) (by rfl) (pa_cons (pv 7) (pa_cons (pe_slice (r := rSlL K) sl_list (pv 10) (po_some (pe_int)) po_none) (pa_cons (pv 13) pa_nil)))) (pe_int) (fun _ _ => rfl)) (pe_ix (r := rIxT K) ix_tup (pv 15) (pe_int) (fun _ _ => rfl)) (nomark _))))) (pss_one (ps_ret (pe_bl))) pss_nil)
      (pss_cons (ps_if (pt_cmpR (r := rNeD K) (op_neD hu64) (pe_lc (own := [("_law_one", 16)]) rfl sc_law.nd (pi_listK (K := K) (pe_ix (r := rIxT K) ix_tup (pv 15) (pe_int) (fun _ _ => rfl))) (blkOk_by (own := [("_law_one", 16)]) (N := N_law) (sc := defScope s_law) (by decide +kernel)) (fun _ _ _ _ _ => pg_name (i := 16) sc_law.nd rfl (by first | exact Or.inl rfl | exact Or.inr rfl)) (fun _ _ _ _ _ => pts_nil) (fun _ _ _ _ _ => (pe_op op_sub (pe_int) (pv 16)))) (pe_ix (r := rIxT K) ix_tup (pe_fn (ok_fall W) (hr.mono (by decide)) (by rfl) (pa_cons (pe_mt0 (ok_Rig_turned W) (hr.mono (by decide)) W.cRig (pv 6)) (pa_cons (pe_slice (r := rSlL K) sl_list (pv 11) (po_some (pe_int)) po_none) (pa_cons (pv 12) pa_nil)))) (pe_int) (fun _ _ => rfl)) (nomark _)) (pss_one (ps_ret (pe_bl))) pss_nil)
      (pss_cons (ps_expr (pe_bm0 PySem.F.plainAttrs_list PySem.F.slot_list_clear PySem.F.type_list_clear mt_clear (pe_ix (r := rIxT K) ix_tup (pv 15) (pe_int) (fun _ _ => rfl))))
      (pss_cons (ps_dput hu (pe_ix (r := rIxT K) ix_tup (pv 15) (pe_int) (fun _ _ => rfl)) (pe_int) (pe_int) rfl)
      (pss_cons (ps_dput hu (pe_ix (r := rIxT K) ix_tup (pv 15) (pe_int) (fun _ _ => rfl)) (pe_int) (pe_lst (pa_cons (pe_int) pa_nil)) rfl)
      (pss_one (ps_if (pt_not (pt_val (pe_fn (ok_law_rise W) (hr.mono (by decide)) (by rfl) (pa_cons (pv 5) (pa_cons (pv 8) (pa_cons (pv 10) (pa_cons (pv 13) (pa_cons (pe_fn (ok_rise W) (hr.mono (by decide)) (by rfl) (pa_cons (pv 6) (pa_cons (pe_slice (r := rSlL K) sl_list (pv 10) (po_some (pe_int)) po_none) (pa_cons (pv 13) pa_nil)))) pa_nil)))))))) (pss_one (ps_ret (pe_bl))) pss_nil)))))))))))))))
      (pss_one (ps_ret (pe_bl))))))))))))), fun b Q sb k => ?_⟩
  try dsimp only
  try dsimp only at k
  have n1 := (ln_rng ns).1
  have n8 := (ln_rng ns).2
  refine sq_asgX (evx_call (R := []) ns (ea_cons (ev_var rfl) ea_nil) trivial) fun y => ?_
  obtain ⟨p, lc⟩ := y
  refine sq_asg (P := I (ln ns)) (ev_op (ev_int) (ev_draw (q := lq0 ns) (R := []) (ea_cons (ev_var rfl) (ea_cons (ev_int) ea_nil)) (by decide) (by decide)) rv_add) ?_
  refine sq_asg (P := Bo (lw ns)) (ev_op (ev_draw (q := lq1 ns) (R := []) (ea_cons (ev_var rfl) (ea_cons (ev_int) ea_nil)) (by decide) (by decide)) (ev_int) rv_eq) ?_
  refine sq_asg (P := L (L I) [(lh ns).one, (lh ns).two]) (ev_unit (evx_call (R := []) (p, lc, lq2 ns, ln ns, lw ns) (ea_cons (ev_var rfl) (ea_cons (ev_var rfl) (ea_cons (ev_var rfl) ea_nil))) ⟨by show 0 ≤ ln ns; omega, n8⟩)) ?_
  refine sq_asg (P := L Ro (lrs ns)) (ev_unit (evx_call (R := []) (p, lc, (lh ns).q, ln ns, (lh ns).one, (lh ns).two, 16) (ea_cons (ev_var rfl) (ea_cons (ev_var rfl) (ea_cons (ev_int) ea_nil))) ⟨n1, n8, hp.h1, hp.h2, by show (0 : Int) < 16; decide, by show (16 : Int) ≤ 1000; decide⟩)) ?_
  refine sq_asg (P := Rg K (ln ns) (lrs ns)) (ev_make (ln ns, lrs ns) (ea_cons (ev_var rfl) (ea_cons (ev_cb (ea_cons (ev_var rfl) ea_nil) rc_listL) ea_nil)) hp.rs) ?_
  refine sq_asg (ev_var rfl) ?_
  refine go_cut (G1 := [some (Sc K ns), some (At p), some (I (ln ns)), some (Bo (lw ns)), some (L (L I) [(lh ns).one, (lh ns).two]), some (L Ro (lrs2 ns)), some (Rg K (ln ns) (lrs2 ns)), some (Rg K (ln ns) (lrs ns)), none, none, none, none, none, none, none, none, none, none]) (O2 := PlOw p lc (lF ns).1 ++ []) ?_ ?_
  · have hdat : ∀ x ∈ lrs ns, Dat (Hold (PlOw p lc (lR ns).1 ++ [])) (Ro x) (PyData.tuple [.int x.1, .int x.2.1, .int x.2.2]) := fun _ _ => dat_triple dat_int dat_int dat_int
    cases he : (lrs ns).isEmpty with
    | true =>
      have h1 : lF ns = ((lR ns).1, lrs ns) := if_pos he
      have h2 : lrs2 ns = lrs ns := by unfold lrs2; rw [h1]
      rw [h1, h2]
      exact go_ifC (c := false) (O1 := PlOw p lc (lR ns).1 ++ []) (et_and (c := false) (d := false) (EvT.cast (et_test (ev_op (ev_var (P := L Ro (lrs ns)) rfl) (ev_lst I [] ea_nil) (rv_neN (f := Ro) hdat (triples_shaped _)))) (by rw [he]; rfl)) fun h => by cases h) (fun h => by cases h) fun _ => nx_pst (.yes rfl (.yes rfl (.yes rfl (.yes rfl (.yes rfl (.yes rfl (.yes rfl (.yes rfl (.no (.no (.no (.no (.no (.no (.no (.no (.no (.no .nil))))))))))))))))))
    | false =>
      have h0 : lF ns = if (dr (lR ns).1 3).1 = 0 then filled (dr (lR ns).1 3).2 (lrs ns) else ((dr (lR ns).1 3).2, lrs ns) := if_neg (by rw [he]; decide)
      refine go_ifC (c := decide ((dr (lR ns).1 3).1 = 0)) (O1 := PlOw p lc (dr (lR ns).1 3).2 ++ []) (et_andT (O1 := PlOw p lc (lR ns).1 ++ []) (EvT.cast (et_test (ev_op (ev_var (P := L Ro (lrs ns)) rfl) (ev_lst I [] ea_nil) (rv_neN (f := Ro) hdat (triples_shaped _)))) (by rw [he]; rfl)) (et_test (ev_op (ev_draw (q := (lR ns).1) (R := []) (ea_cons (ev_var rfl) (ea_cons (ev_int) ea_nil)) (by decide) (by decide)) (ev_int) rv_eq))) (fun h => ?_) fun h => ?_
      · have h1 : lF ns = filled (dr (lR ns).1 3).2 (lrs ns) := h0.trans (if_pos (of_decide_eq_true h))
        have h2 : lrs2 ns = (filled (dr (lR ns).1 3).2 (lrs ns)).2 := by unfold lrs2; rw [h1]
        have hpos : 1 ≤ (lrs ns).length := by
          cases hq : lrs ns with
          | nil =>
            rw [hq] at he
            cases he
          | cons x r => simp
        have hrs2 := hp.rs2
        rw [h2] at hrs2
        rw [h1, h2]
        refine sq_asg (P := L Ro (filled (dr (lR ns).1 3).2 (lrs ns)).2) (ev_unit (evx_call (R := []) (p, lc, (dr (lR ns).1 3).2, lrs ns) (ea_cons (ev_var rfl) (ea_cons (ev_var rfl) ea_nil)) ⟨hpos, hp.rs.len⟩)) ?_
        exact go_asg (P := Rg K (ln ns) (filled (dr (lR ns).1 3).2 (lrs ns)).2) (ev_make (ln ns, (filled (dr (lR ns).1 3).2 (lrs ns)).2) (ea_cons (ev_var rfl) (ea_cons (ev_cb (ea_cons (ev_var rfl) ea_nil) rc_listL) ea_nil)) hrs2) (nx_pst (.yes rfl (.yes rfl (.yes rfl (.yes rfl (.yes rfl (.yes rfl (.yes rfl (.yes rfl (.no (.no (.no (.no (.no (.no (.no (.no (.no (.no .nil)))))))))))))))))))
      · have h1 : lF ns = ((dr (lR ns).1 3).2, lrs ns) := h0.trans (if_neg (of_decide_eq_false h))
        have h2 : lrs2 ns = lrs ns := by unfold lrs2; rw [h1]
        rw [h1, h2]
        exact nx_pst (.yes rfl (.yes rfl (.yes rfl (.yes rfl (.yes rfl (.yes rfl (.yes rfl (.yes rfl (.no (.no (.no (.no (.no (.no (.no (.no (.no (.no .nil))))))))))))))))))
  refine sq_asg (ev_call (ln ns, lrs2 ns) (ea_cons (ev_var rfl) (ea_cons (ev_var rfl) ea_nil)) hp.rs2) ?_
  refine sq_for (vs := [9]) (src_rng1 (ea_cons (ev_int) ea_nil) (by decide) (by decide)) (fun i => [some (Sc K ns), some (At p), some (I (ln ns)), some (Bo (lw ns)), some (L (L I) [(lh ns).one, (lh ns).two]), some (L Ro (lrs2 ns)), some (Rg K (ln ns) (lrs2 ns)), some (Rg K (ln ns) (lrs ns)), some (L (L Op) (tbl (ln ns) (Df0 (ln ns) (lrs2 ns)))), none, none, none, none, none, none, none, none, none]) (fun i => PlOw p lc (lqs ns i) ++ []) (fun i z => [some (Sc K ns), some (At p), some (I (ln ns)), some (Bo (lw ns)), some (L (L I) [(lh ns).one, (lh ns).two]), some (L Ro (lrs2 ns)), some (Rg K (ln ns) (lrs2 ns)), some (Rg K (ln ns) (lrs ns)), some (L (L Op) (tbl (ln ns) (Df0 (ln ns) (lrs2 ns)))), some (I z), none, none, none, none, none, none, none, none]) (.yes rfl (.yes rfl (.yes rfl (.yes rfl (.yes rfl (.yes rfl (.yes rfl (.yes rfl (.yes rfl (.no (.no (.no (.no (.no (.no (.no (.no (.no .nil)))))))))))))))))) rfl (fun i z hz => tg_name) (fun b1 r1 i z hz => ?_) ?_
  · have hz2 := rg_get hz
    have hi : i < 2 := hz2.2
    have ht := hp.turn i hi
    have hh : atI [(lh ns).one, (lh ns).two] z = some (lhg ns i) := by
      rw [hz2.1]
      have h01 : i = 0 ∨ i = 1 := by omega
      rcases h01 with rfl | rfl <;> rfl
    have hq : lqs ns (i + 1) = (slips (lqs ns i) (neg (lhg ns i)) (lw ns)).q := rfl
    have hSe : lS ns i = (slips (lqs ns i) (neg (lhg ns i)) (lw ns)).sl := rfl
    rw [hq]
    generalize lqs ns i = q0 at hSe ⊢
    generalize lhg ns i = hg at hh ht hSe ⊢
    generalize lS ns i = S at ht hSe
    have hgl := ht.len
    have hSl := ht.sl
    have hnl : (neg hg).length = hg.length := by unfold neg; rw [List.length_map]
    refine sq_asg (P := L I hg) (ev_op (ev_var rfl) (ev_var rfl) (rv_ixL hh)) ?_
    refine sq_asg (P := L I (neg hg)) (ev_lcA I (fun z => 0 - z) (fun y => [some (Sc K ns), some (At p), some (I (ln ns)), some (Bo (lw ns)), some (L (L I) [(lh ns).one, (lh ns).two]), some (L Ro (lrs2 ns)), some (Rg K (ln ns) (lrs2 ns)), some (Rg K (ln ns) (lrs ns)), some (L (L Op) (tbl (ln ns) (Df0 (ln ns) (lrs2 ns)))), some (I z), some (L I hg), none, none, none, none, none, some (I y), none]) (src_list (ev_var rfl)) (fun z _ => tg_name) (fun z hz O => (ev_op (ev_int) (ev_var rfl) rv_sub)) (by omega)) ?_
    refine sq_asg (P := L PII S) (Ev.cast (ev_unit (evx_call (R := []) (p, lc, q0, ln ns, neg hg, lw ns) (ea_cons (ev_var rfl) (ea_cons (ev_var rfl) (ea_cons (ev_var rfl) ea_nil))) ⟨n1, n8, by show ((neg hg).length : Int) = ln ns + 1; rw [hnl]; exact hgl⟩)) (by rw [hSe])) ?_
    generalize (slips q0 (neg hg) (lw ns)).q = q
    refine sq_asg (P := L PII (negS S)) (ev_lcA PII (fun z => (z.1, 0 - z.2)) (fun y => [some (Sc K ns), some (At p), some (I (ln ns)), some (Bo (lw ns)), some (L (L I) [(lh ns).one, (lh ns).two]), some (L Ro (lrs2 ns)), some (Rg K (ln ns) (lrs2 ns)), some (Rg K (ln ns) (lrs ns)), some (L (L Op) (tbl (ln ns) (Df0 (ln ns) (lrs2 ns)))), some (I z), some (L I hg), some (L I (neg hg)), some (L PII S), none, none, none, none, some (PII y)]) (src_list (ev_var rfl)) (fun z _ => tg_name) (fun z hz O => (ev_tup (ea_cons (ev_op (ev_var rfl) (ev_int) (rv_ixT (f := fun P : HP => P) (x := I z.1) rfl)) (ea_cons (ev_op (ev_int) (ev_op (ev_var rfl) (ev_int) (rv_ixT (f := fun P : HP => P) (x := I z.2) rfl)) rv_sub) ea_nil)))) (by omega)) ?_
    refine sq_asg (P := L PII (negS S)) (ev_cb (ea_cons (ev_var rfl) ea_nil) rc_listL) ?_
    refine sq_asgX (evx_call (R := PlOw p lc q ++ []) (ln ns, lrs2 ns, hg.drop 1, negS S) (ea_cons (ev_var rfl) (ea_cons (ev_sl1 (ev_var rfl)) (ea_cons (ev_var rfl) ea_nil))) ht.full) fun y => ?_
    obtain ⟨lh', dp, ds⟩ := y
    refine go_perm (O' := [(ds, oD (L I) (revS (m_stops (ln ns) (turned (lrs2 ns)) (negS (negS S))))), (dp, oD Op (f_pulls (ln ns) (turned (lrs2 ns)) (neg (hg.drop 1)) (negS (negS S)))), (lh', oL I (neg (f_hs (ln ns) (turned (lrs2 ns)) (neg (hg.drop 1)) (negS (negS S)))))] ++ (PlOw p lc q ++ [])) ((perm3r _ _ _).append_right _) ?_
    refine sq_no (et_or (et_not (et_B (ev_unit (evx_call (R := PlOw p lc q ++ []) (lh', dp, ds, ln ns, lrs2 ns, Df0 (ln ns) (lrs2 ns), hg, negS S, (neg (f_hs (ln ns) (turned (lrs2 ns)) (neg (hg.drop 1)) (negS (negS S)))), (f_pulls (ln ns) (turned (lrs2 ns)) (neg (hg.drop 1)) (negS (negS S))), (revS (m_stops (ln ns) (turned (lrs2 ns)) (negS (negS S))))) (ea_cons (ev_var rfl) (ea_cons (ev_var rfl) (ea_cons (ev_var rfl) (ea_cons (ev_var rfl) (ea_cons (ev_var rfl) ea_nil))))) ht.lawr)))) fun _ => (et_test (ev_op (ev_var rfl) (ev_var rfl) rv_neP))) rfl ?_
    refine sq_no (et_or (et_test (ev_op (ev_unit (evx_call (R := PlOw p lc q ++ []) (lh', dp, ds, true, ln ns, lrs2 ns, hg.drop 1, negS S, (neg (f_hs (ln ns) (turned (lrs2 ns)) (neg (hg.drop 1)) (negS (negS S)))), (f_pulls (ln ns) (turned (lrs2 ns)) (neg (hg.drop 1)) (negS (negS S))), (revS (m_stops (ln ns) (turned (lrs2 ns)) (negS (negS S))))) (ea_cons (ev_var rfl) (ea_cons (ev_sl1 (ev_var rfl)) (ea_cons (ev_tupOf (ev_var rfl)) (ea_cons (ev_var rfl) ea_nil)))) ht.chk)) (ev_bl) rv_notBl)) fun _ => (et_test (ev_lessA (O1 := [(ds, oD (L I) (revS (m_stops (ln ns) (turned (lrs2 ns)) (negS (negS S))))), (dp, oD Op (f_pulls (ln ns) (turned (lrs2 ns)) (neg (hg.drop 1)) (negS (negS S)))), (lh', oL I (neg (f_hs (ln ns) (turned (lrs2 ns)) (neg (hg.drop 1)) (negS (negS S)))))] ++ (PlOw p lc q ++ [])) (evx_op (evx_opX (P3 := fun y : Addr × Addr × Addr => At y.1) (evx_call (R := [(ds, oD (L I) (revS (m_stops (ln ns) (turned (lrs2 ns)) (negS (negS S))))), (dp, oD Op (f_pulls (ln ns) (turned (lrs2 ns)) (neg (hg.drop 1)) (negS (negS S)))), (lh', oL I (neg (f_hs (ln ns) (turned (lrs2 ns)) (neg (hg.drop 1)) (negS (negS S)))))] ++ (PlOw p lc q ++ [])) (ln ns, lrs ns, hg.drop 1, negS S) (ea_cons (ev_var rfl) (ea_cons (ev_sl1 (ev_var rfl)) (ea_cons (ev_var rfl) ea_nil))) ht.bare) (fun y => ev_int) (fun y => rv_ixT (f := fun P : HP => P) (x := At y.1) rfl)) (fun y => ev_op (ev_var rfl) (ev_int) (rv_ixT (f := fun P : HP => P) (x := At lh') rfl)) (fun y => rv_neD (dat_own (f := I) (xs := neg (f_hs (ln ns) (turned (lrs ns)) (neg (hg.drop 1)) (negS (negS S)))) (by simp) (fun _ _ => dat_int)) (dat_own (f := I) (xs := (neg (f_hs (ln ns) (turned (lrs2 ns)) (neg (hg.drop 1)) (negS (negS S))))) (by simp) (fun _ _ => dat_int)) (shaped_ints _) (shaped_ints _) (eqv_ints _ _)))))) ?_ ?_
    · rw [ht.same]
      simp
    refine sq_no (et_test (ev_op (ev_heldM (l := lh') (o := oL I (neg (f_hs (ln ns) (turned (lrs2 ns)) (neg (hg.drop 1)) (negS (negS S))))) (R := [(ds, oD (L I) (revS (m_stops (ln ns) (turned (lrs2 ns)) (negS (negS S))))), (dp, oD Op (f_pulls (ln ns) (turned (lrs2 ns)) (neg (hg.drop 1)) (negS (negS S))))] ++ (PlOw p lc q ++ [])) (perm3h _ _ _ _) fun b' hl => ev_lcA I (fun z => 0 - z) (fun y => [some (Sc K ns), some (At p), some (I (ln ns)), some (Bo (lw ns)), some (L (L I) [(lh ns).one, (lh ns).two]), some (L Ro (lrs2 ns)), some (Rg K (ln ns) (lrs2 ns)), some (Rg K (ln ns) (lrs ns)), some (L (L Op) (tbl (ln ns) (Df0 (ln ns) (lrs2 ns)))), some (I z), some (L I hg), some (L I (neg hg)), some (L PII S), some (L PII (negS S)), some (L PII (negS S)), some (Tp [At lh', At dp, At ds]), some (I y), none]) (src_held hl (ev_op (ev_var rfl) (ev_int) (rv_ixT (f := fun P : HP => P) (x := At lh') rfl))) (fun z _ => tg_name) (fun z hz O => (ev_op (ev_int) (ev_var rfl) rv_sub)) ?_) (ev_lessA (O1 := [(ds, oD (L I) (revS (m_stops (ln ns) (turned (lrs2 ns)) (negS (negS S))))), (dp, oD Op (f_pulls (ln ns) (turned (lrs2 ns)) (neg (hg.drop 1)) (negS (negS S)))), (lh', oL I (neg (f_hs (ln ns) (turned (lrs2 ns)) (neg (hg.drop 1)) (negS (negS S)))))] ++ (PlOw p lc q ++ [])) (evx_op (evx_call (R := [(ds, oD (L I) (revS (m_stops (ln ns) (turned (lrs2 ns)) (negS (negS S))))), (dp, oD Op (f_pulls (ln ns) (turned (lrs2 ns)) (neg (hg.drop 1)) (negS (negS S)))), (lh', oL I (neg (f_hs (ln ns) (turned (lrs2 ns)) (neg (hg.drop 1)) (negS (negS S)))))] ++ (PlOw p lc q ++ [])) (ln ns, turned (lrs2 ns), (neg hg).drop 1, S) (ea_cons (ev_meth (ln ns, lrs2 ns) (ev_var rfl) (by decide +kernel) (by decide +kernel) ea_nil hp.rs2) (ea_cons (ev_sl1 (ev_var rfl)) (ea_cons (ev_var rfl) ea_nil))) ?_) (fun y => ev_int) (fun y => rv_ixT (f := fun P : HP => P) (x := L I (f_hs (ln ns) (turned (lrs2 ns)) ((neg hg).drop 1) S)) rfl))) rv_neL)) ?_ ?_
    · have := ht.lawr.2.2.2.1
      omega
    · have h := ht.full.2.2.2
      rw [ht.e] at h
      rw [neg_drop]
      exact h
    · have e : neg (neg (f_hs (ln ns) (turned (lrs2 ns)) (neg (hg.drop 1)) (negS (negS S)))) = f_hs (ln ns) (turned (lrs2 ns)) ((neg hg).drop 1) S := by
        rw [ht.e, neg_drop, neg_neg]
      exact congrArg (fun c : Bool => !c) (decide_eq_true e)
    refine sq_clear (l := lh') (f := I) (xs := (neg (f_hs (ln ns) (turned (lrs2 ns)) (neg (hg.drop 1)) (negS (negS S))))) (O2 := [(ds, oD (L I) (revS (m_stops (ln ns) (turned (lrs2 ns)) (negS (negS S))))), (dp, oD Op (f_pulls (ln ns) (turned (lrs2 ns)) (neg (hg.drop 1)) (negS (negS S))))] ++ (PlOw p lc q ++ [])) (Ev.perm (ev_op (ev_var rfl) (ev_int) (rv_ixT (f := fun P : HP => P) (x := At lh') rfl)) (perm3h _ _ _ _)) ?_
    refine sq_dput (f := Op) (x := some 7) (kvs := (f_pulls (ln ns) (turned (lrs2 ns)) (neg (hg.drop 1)) (negS (negS S)))) (d := dp) (O1 := (lh', oL I []) :: ([(ds, oD (L I) (revS (m_stops (ln ns) (turned (lrs2 ns)) (negS (negS S))))), (dp, oD Op (f_pulls (ln ns) (turned (lrs2 ns)) (neg (hg.drop 1)) (negS (negS S))))] ++ (PlOw p lc q ++ []))) (O2 := (lh', oL I []) :: (ds, oD (L I) (revS (m_stops (ln ns) (turned (lrs2 ns)) (negS (negS S))))) :: (PlOw p lc q ++ [])) (ev_int) (ev_op (ev_var rfl) (ev_int) (rv_ixT (f := fun P : HP => P) (x := At dp) rfl)) (Ev.perm (ev_int (O := (lh', oL I []) :: ([(ds, oD (L I) (revS (m_stops (ln ns) (turned (lrs2 ns)) (negS (negS S))))), (dp, oD Op (f_pulls (ln ns) (turned (lrs2 ns)) (neg (hg.drop 1)) (negS (negS S))))] ++ (PlOw p lc q ++ [])))) (perm3i _ _ _ _)) ?_ ?_
    · have h := congrArg List.length ht.lawr.2.2.2.2.2.2.pu.keys
      rw [List.length_map] at h
      rw [h]
      exact Nat.lt_of_le_of_lt (ldown_len _ _) (by omega)
    refine sq_dput (f := L I) (x := [0]) (kvs := (revS (m_stops (ln ns) (turned (lrs2 ns)) (negS (negS S))))) (d := ds) (O1 := (dp, oD Op (Rb.dp (f_pulls (ln ns) (turned (lrs2 ns)) (neg (hg.drop 1)) (negS (negS S))) 0 (some 7))) :: (lh', oL I []) :: (ds, oD (L I) (revS (m_stops (ln ns) (turned (lrs2 ns)) (negS (negS S))))) :: (PlOw p lc q ++ [])) (O2 := (dp, oD Op (Rb.dp (f_pulls (ln ns) (turned (lrs2 ns)) (neg (hg.drop 1)) (negS (negS S))) 0 (some 7))) :: (lh', oL I []) :: (PlOw p lc q ++ [])) (ev_lst I [0] (ea_cons (ev_int) ea_nil)) (ev_op (ev_var rfl) (ev_int) (rv_ixT (f := fun P : HP => P) (x := At ds) rfl)) (Ev.perm (ev_int (O := (dp, oD Op (Rb.dp (f_pulls (ln ns) (turned (lrs2 ns)) (neg (hg.drop 1)) (negS (negS S))) 0 (some 7))) :: (lh', oL I []) :: (ds, oD (L I) (revS (m_stops (ln ns) (turned (lrs2 ns)) (negS (negS S))))) :: (PlOw p lc q ++ []))) (perm3j _ _ _ _)) ?_ ?_
    · have := ht.lawr.2.2.2.2.2.1
      omega
    refine sq_less (O' := PlOw p lc q ++ []) (fun x hx => List.mem_cons_of_mem _ (List.mem_cons_of_mem _ (List.mem_cons_of_mem _ hx))) (fun hn => ?_) ?_
    · exact (List.nodup_cons.mp (List.nodup_cons.mp (List.nodup_cons.mp hn).2).2).2
    refine go_no (et_not (et_B (ev_lessA (O1 := PlOw p lc q ++ []) (evx_callX (fun y : Addr × Addr × Addr => (y.1, y.2.1, y.2.2, ln ns, lrs2 ns, Df0 (ln ns) (lrs2 ns), hg, negS S, (neg (f_hs (ln ns) (turned (lrs2 ns)) (neg (hg.drop 1)) (negS (negS S)))), (f_pulls (ln ns) (turned (lrs2 ns)) (neg (hg.drop 1)) (negS (negS S))), (revS (m_stops (ln ns) (turned (lrs2 ns)) (negS (negS S)))))) (eax_cons (ev_var rfl) (eax_cons (ev_var rfl) (eax_cons (ev_var rfl) (eax_cons (ev_var rfl) (eax_last (EvX.perm (O2 := fun y => [(y.2.2, oD (L I) (revS (m_stops (ln ns) (turned (lrs2 ns)) (negS (negS S))))), (y.2.1, oD Op (f_pulls (ln ns) (turned (lrs2 ns)) (neg (hg.drop 1)) (negS (negS S)))), (y.1, oL I (neg (f_hs (ln ns) (turned (lrs2 ns)) (neg (hg.drop 1)) (negS (negS S)))))] ++ (PlOw p lc q ++ [])) (evx_call (R := PlOw p lc q ++ []) (ln ns, lrs2 ns, hg.drop 1, negS S) (ea_cons (ev_var rfl) (ea_cons (ev_sl1 (ev_var rfl)) (ea_cons (ev_var rfl) ea_nil))) ht.full) (fun y => (perm3r _ _ _).append_right _))))))) (fun _ => PlOw p lc q ++ []) (fun _ => rfl) (fun _ => ht.lawr) (fun _ => rfl))))) rfl (nx_pst (.yes rfl (.yes rfl (.yes rfl (.yes rfl (.yes rfl (.yes rfl (.yes rfl (.yes rfl (.yes rfl (.no (.no (.no (.no (.no (.no (.no (.no (.no .nil)))))))))))))))))))
  · exact goR k.fin (ev_bl) rfl

end
end Rb

set_option Elab.async false
set_option linter.all false
set_option maxRecDepth 100000
set_option maxHeartbeats 4000000
/-! The sums settle: walks, potentials, and why a pass after the n-th makes nothing less. -/
namespace Rb
open PySem PySem.Spec PyProof.Rows L2
def wlk (rs : List Rope) : Int → List Int → Int → Prop
  | u, [], k => u = k
  | u, i :: c, k => (0 ≤ i ∧ i < rs.length) ∧ (rp rs i).1 = u ∧ wlk rs (rp rs i).2.1 c k
def Pot (rs : List Rope) (fe : Int → Int) : Prop := ∀ r ∈ rs, fe r.1 - fe r.2.1 ≤ r.2.2
theorem sm_cons (rs : List Rope) (i : Int) (c : List Int) : sm rs (i :: c) = (rp rs i).2.2 + sm rs c := rfl
theorem sm_nil (rs : List Rope) : sm rs [] = 0 := rfl
theorem sm_app (rs : List Rope) (c d : List Int) : sm rs (c ++ d) = sm rs c + sm rs d := by
  induction c with
  | nil => simp [sm_nil]
  | cons i c ih =>
    rw [List.cons_append, sm_cons, sm_cons, ih]
    omega
theorem wlk_app {rs : List Rope} : ∀ {u : Int} {c d : List Int} {v : Int}, wlk rs u (c ++ d) v ↔ ∃ m, wlk rs u c m ∧ wlk rs m d v
  | u, [], d, v => by
    constructor
    · intro h
      exact ⟨u, rfl, h⟩
    · rintro ⟨m, rfl, h⟩
      exact h
  | u, i :: c, d, v => by
    constructor
    · rintro ⟨h1, h2, h3⟩
      obtain ⟨m, h4, h5⟩ := wlk_app.mp h3
      exact ⟨m, ⟨h1, h2, h4⟩, h5⟩
    · rintro ⟨m, ⟨h1, h2, h4⟩, h5⟩
      exact ⟨h1, h2, wlk_app.mpr ⟨m, h4, h5⟩⟩
theorem wlk_end {rs : List Rope} : ∀ {u : Int} {c : List Int} {v w : Int}, wlk rs u c v → wlk rs u c w → v = w
  | u, [], v, w, h1, h2 => h1.symm.trans h2
  | u, i :: c, v, w, h1, h2 => wlk_end h1.2.2 h2.2.2
theorem wlk_pot {rs : List Rope} {fe : Int → Int} (p : Pot rs fe) : ∀ {u : Int} {c : List Int} {k : Int}, wlk rs u c k → fe u - fe k ≤ sm rs c
  | u, [], k, h => by
    cases (show u = k from h)
    rw [sm_nil]
    omega
  | u, i :: c, k, h => by
    have h1 := p _ (rp_mem h.1.1 h.1.2)
    have h2 := wlk_pot p h.2.2
    rw [h.2.1] at h1
    rw [sm_cons]
    omega
/-- the knots that a walk passes -/
def vis (rs : List Rope) (u : Int) (c : List Int) : List Int := u :: c.map fun i => (rp rs i).2.1
theorem vis_split {rs : List Rope} : ∀ {u : Int} {c : List Int} {k v : Int}, wlk rs u c k → v ∈ vis rs u c → ∃ c1 c2, c = c1 ++ c2 ∧ wlk rs u c1 v ∧ wlk rs v c2 k
  | u, [], k, v, h, hv => by
    simp [vis] at hv
    subst hv
    exact ⟨[], [], rfl, rfl, h⟩
  | u, i :: c, k, v, h, hv => by
    unfold vis at hv
    rcases List.mem_cons.mp hv with rfl | hv
    · exact ⟨[], i :: c, rfl, rfl, h⟩
    · obtain ⟨c1, c2, e, h1, h2⟩ := vis_split (u := (rp rs i).2.1) h.2.2 hv
      exact ⟨i :: c1, c2, by rw [e]; rfl, ⟨h.1, h.2.1, h1⟩, h2⟩
/-- what is there, at most x -/
def Le (b : Best) (v x : Int) : Prop := ∃ e, dl b v = some e ∧ e.1 ≤ x
/-- where the sums begin -/
structure Src0 (n : Int) (b : Best) : Prop where
  z : ∀ k e, dl b k = some e → e = (0, []) ∧ 0 ≤ k ∧ k ≤ n
structure Inv (n : Int) (rs : List Rope) (b0 b : Best) : Prop where
  rng : ∀ u e, dl b u = some e → 0 ≤ u ∧ u ≤ n
  wk : ∀ u e, dl b u = some e → ∃ k, (dl b0 k).isSome = true ∧ wlk rs u e.2 k
  sum : ∀ u e, dl b u = some e → sm rs e.2 = e.1
  suf : ∀ u e, dl b u = some e → ∀ c1 c2, e.2 = c1 ++ c2 → ∀ v, wlk rs u c1 v → Le b v (sm rs c2)
  nd : ∀ u e, dl b u = some e → (vis rs u e.2).Nodup
theorem Inv.start {n : Int} {rs : List Rope} {b0 : Best} (h : Src0 n b0) : Inv n rs b0 b0 := by
  refine ⟨fun u e he => (h.z u e he).2, fun u e he => ⟨u, by rw [he]; rfl, ?_⟩, fun u e he => ?_, fun u e he c1 c2 hc v hv => ?_, fun u e he => ?_⟩
  · rw [(h.z u e he).1]
    exact rfl
  · rw [(h.z u e he).1]
    rfl
  · have e0 := (h.z u e he).1
    subst e0
    have hc : ([] : List Int) = c1 ++ c2 := hc
    have := List.append_eq_nil_iff.mp hc.symm
    obtain ⟨rfl, rfl⟩ := this
    cases (show u = v from hv)
    exact ⟨_, he, Int.le_refl _⟩
  · rw [(h.z u e he).1]
    simp [vis]
theorem en_rp {rs : List Rope} {z : Int × Rope} (h : z ∈ en 0 rs) : (0 ≤ z.1 ∧ z.1 < rs.length) ∧ rp rs z.1 = z.2 := by
  obtain ⟨j, hj⟩ := List.mem_iff_getElem?.mp h
  have h1 := en_get hj
  have h2 := (List.getElem?_eq_some_iff.mp h1.2).1
  have e : z.1 = (j : Int) := by omega
  refine ⟨by omega, ?_⟩
  unfold rp
  rw [e]
  simp [h1.2]
/-- a change, looked at -/
theorem rx_cases (s : Best × Option Int) (z : Int × Rope) : rx s z = s ∨ ∃ e, dl s.1 z.2.2.1 = some e ∧ (∀ y, dl s.1 z.2.1 = some y → e.1 + z.2.2.2 < y.1) ∧ rx s z = (dp s.1 z.2.1 (e.1 + z.2.2.2, z.1 :: e.2), some z.2.1) := by
  unfold rx
  cases h : dl s.1 z.2.2.1 with
  | none => exact .inl rfl
  | some e =>
    simp only
    by_cases c : (!(dl s.1 z.2.1).isSome || decide (e.1 + z.2.2.2 < ((dl s.1 z.2.1).getD (0, [])).1)) = true
    · right
      refine ⟨e, rfl, fun y hy => ?_, if_pos c⟩
      rw [hy] at c
      simpa using c
    · exact .inl (if_neg c)
theorem Le.rx {s : Best × Option Int} {v x : Int} (h : Le s.1 v x) (z : Int × Rope) : Le (rx s z).1 v x := by
  rcases rx_cases s z with e | ⟨e, he, hlt, e2⟩
  · rw [e]
    exact h
  · rw [e2]
    obtain ⟨y, hy, hx⟩ := h
    show Le (dp s.1 z.2.1 _) v x
    unfold Le
    rw [dl_dp]
    by_cases hv : v = z.2.1
    · rw [if_pos hv]
      subst hv
      have := hlt y hy
      exact ⟨_, rfl, by show e.1 + z.2.2.2 ≤ x; omega⟩
    · rw [if_neg hv]
      exact ⟨y, hy, hx⟩
theorem Le.fold : ∀ (l : List (Int × Rope)) {s : Best × Option Int} {v x : Int}, Le s.1 v x → Le (l.foldl Rb.rx s).1 v x
  | [], _, _, _, h => h
  | z :: l, s, v, x, h => Le.fold l (s := Rb.rx s z) (h.rx z)
theorem Le.mono {b : Best} {v x y : Int} (h : Le b v x) (l : x ≤ y) : Le b v y := by
  obtain ⟨e, h1, h2⟩ := h
  exact ⟨e, h1, by omega⟩
/-- a rope looked at -/
theorem Le.rope {s : Best × Option Int} {z : Int × Rope} {x : Int} (h : Le s.1 z.2.2.1 x) : Le (Rb.rx s z).1 z.2.1 (x + z.2.2.2) := by
  obtain ⟨y, hy, hx⟩ := h
  rcases rx_cases s z with e | ⟨e, he, hlt, e2⟩
  · have e0 := e
    unfold Rb.rx at e
    rw [hy] at e
    simp only at e
    rw [e0]
    by_cases c : (!(dl s.1 z.2.1).isSome || decide (y.1 + z.2.2.2 < ((dl s.1 z.2.1).getD (0, [])).1)) = true
    · have q := congrArg (fun t : Best × Option Int => dl t.1 z.2.1) (e.symm.trans (if_pos c))
      simp only at q
      rw [dl_dp, if_pos rfl] at q
      exact ⟨_, q, by show y.1 + z.2.2.2 ≤ _; omega⟩
    · have c : (!(dl s.1 z.2.1).isSome || decide (y.1 + z.2.2.2 < ((dl s.1 z.2.1).getD (0, [])).1)) = false := (Bool.not_eq_true _).mp c
      cases hu : dl s.1 z.2.1 with
      | none =>
        rw [hu] at c
        cases c
      | some w =>
        rw [hu] at c
        simp at c
        exact ⟨w, hu, by omega⟩
  · rw [e2]
    rw [hy] at he
    cases he
    refine ⟨(y.1 + z.2.2.2, z.1 :: y.2), ?_, by show y.1 + z.2.2.2 ≤ _; omega⟩
    show dl (dp s.1 z.2.1 _) z.2.1 = _
    rw [dl_dp, if_pos rfl]
theorem Le.pass {rs : List Rope} {b : Best} {r : Rope} {x : Int} (hr : r ∈ rs) (h : Le b r.2.1 x) : Le (ps rs b).1 r.1 (x + r.2.2) := by
  obtain ⟨j, hj⟩ := List.mem_iff_getElem?.mp hr
  have hz := en_at (lo := 0) hj
  obtain ⟨l1, l2, e, _⟩ := List.append_of_mem (List.mem_of_getElem? hz) |>.elim fun a ha => ha.elim fun c hc => (⟨a, c, hc, trivial⟩ : ∃ a c, en 0 rs = a ++ (0 + (j : Int), r) :: c ∧ True)
  unfold ps
  rw [e, List.foldl_append, List.foldl_cons]
  exact Le.fold l2 (Le.rope (z := (0 + (j : Int), r)) (Le.fold l1 (s := (b, none)) h))
theorem Le.it {rs : List Rope} {b : Best} {v x : Int} (h : Le b v x) : ∀ t, Le (it rs t b) v x
  | 0 => h
  | t + 1 => Le.fold (en 0 rs) (s := (Rb.it rs t b, none)) (Le.it h t)
/-- all walks of at most t ropes are looked at in t passes -/
theorem Le.walk {n : Int} {rs : List Rope} {b0 : Best} (h0 : Src0 n b0) : ∀ (t : Nat) {u k : Int} {c : List Int}, wlk rs u c k → (dl b0 k).isSome = true → c.length ≤ t → Le (Rb.it rs t b0) u (sm rs c)
  | t, u, k, [], h, hk, hl => by
    cases (show u = k from h)
    obtain ⟨e, he⟩ := Option.isSome_iff_exists.mp hk
    have := (h0.z u e he).1
    subst this
    exact Le.it ⟨_, he, Int.le_refl _⟩ t
  | 0, u, k, i :: c, h, hk, hl => by simp at hl
  | t + 1, u, k, i :: c, h, hk, hl => by
    have ih := Le.walk h0 t h.2.2 hk (by simpa using hl)
    have := Le.pass (rp_mem h.1.1 h.1.2) ih
    rw [h.2.1] at this
    rw [sm_cons, Int.add_comm]
    exact this
theorem Inv.new {n : Int} {rs : List Rope} {b0 b : Best} {fe : Int → Int} (p : Pot rs fe) (I : Inv n rs b0 b) {z : Int × Rope} (hz : z ∈ en 0 rs) {e : Int × List Int} (he : dl b z.2.2.1 = some e) (hlt : ∀ y, dl b z.2.1 = some y → e.1 + z.2.2.2 < y.1) : (vis rs z.2.1 (z.1 :: e.2)).Nodup := by
  obtain ⟨hr, hrp⟩ := en_rp hz
  have h1 := I.nd _ _ he
  have ev : vis rs z.2.1 (z.1 :: e.2) = z.2.1 :: vis rs z.2.2.1 e.2 := by
    unfold vis
    rw [List.map_cons, hrp]
  rw [ev]
  refine List.nodup_cons.mpr ⟨fun hm => ?_, h1⟩
  obtain ⟨k, hk, hw⟩ := I.wk _ _ he
  obtain ⟨c1, c2, ec, w1, w2⟩ := vis_split hw hm
  obtain ⟨y, hy, hle⟩ := I.suf _ _ he c1 c2 ec _ w1
  have h2 := hlt y hy
  have h3 := I.sum _ _ he
  rw [ec, sm_app] at h3
  have h4 : wlk rs z.2.1 (z.1 :: c1) z.2.1 := ⟨hr, by rw [hrp], by rw [hrp]; exact w1⟩
  have h5 := wlk_pot p h4
  rw [sm_cons, hrp] at h5
  omega
theorem Inv.rx {n : Int} {rs : List Rope} {b0 : Best} {fe : Int → Int} (p : Pot rs fe) (ok : okRs n rs) {s : Best × Option Int} (I : Inv n rs b0 s.1) {z : Int × Rope} (hz : z ∈ en 0 rs) : Inv n rs b0 (Rb.rx s z).1 := by
  rcases rx_cases s z with e | ⟨e, he, hlt, e2⟩
  · rw [e]
    exact I
  rw [e2]
  obtain ⟨hr, hrp⟩ := en_rp hz
  have hnew := Inv.new p I hz he hlt
  have hok := ok.all _ (en_mem hz)
  show Inv n rs b0 (dp s.1 z.2.1 (e.1 + z.2.2.2, z.1 :: e.2))
  have less : ∀ v x, Le s.1 v x → Le (dp s.1 z.2.1 (e.1 + z.2.2.2, z.1 :: e.2)) v x := fun v x h => by
    have := h.rx z
    rw [e2] at this
    exact this
  refine ⟨fun u y hy => ?_, fun u y hy => ?_, fun u y hy => ?_, fun u y hy c1 c2 hc v hv => ?_, fun u y hy => ?_⟩
  · rw [dl_dp] at hy
    by_cases hu : u = z.2.1
    · rw [hu]
      exact ⟨hok.1, hok.2.1⟩
    · rw [if_neg hu] at hy
      exact I.rng _ _ hy
  · rw [dl_dp] at hy
    by_cases hu : u = z.2.1
    · rw [if_pos hu] at hy
      cases hy
      obtain ⟨k, hk, hw⟩ := I.wk _ _ he
      exact ⟨k, hk, hr, by rw [hrp, hu], by rw [hrp]; exact hw⟩
    · rw [if_neg hu] at hy
      exact I.wk _ _ hy
  · rw [dl_dp] at hy
    by_cases hu : u = z.2.1
    · rw [if_pos hu] at hy
      cases hy
      show sm rs (z.1 :: e.2) = e.1 + z.2.2.2
      rw [sm_cons, hrp, I.sum _ _ he]
      omega
    · rw [if_neg hu] at hy
      exact I.sum _ _ hy
  · rw [dl_dp] at hy
    by_cases hu : u = z.2.1
    · rw [if_pos hu] at hy
      cases hy
      cases c1 with
      | nil =>
        cases (show u = v from hv)
        refine ⟨(e.1 + z.2.2.2, z.1 :: e.2), by rw [dl_dp, if_pos hu], ?_⟩
        have hc : z.1 :: e.2 = c2 := hc
        rw [← hc, sm_cons, hrp, I.sum _ _ he]
        show e.1 + z.2.2.2 ≤ _
        omega
      | cons i c1 =>
        have hc : z.1 :: e.2 = i :: (c1 ++ c2) := hc
        injection hc with h1 h2
        subst h1
        have hv2 := hv.2.2
        rw [hrp] at hv2
        exact less _ _ (I.suf _ _ he c1 c2 h2 v hv2)
    · rw [if_neg hu] at hy
      exact less _ _ (I.suf _ _ hy c1 c2 hc v hv)
  · rw [dl_dp] at hy
    by_cases hu : u = z.2.1
    · rw [if_pos hu] at hy
      cases hy
      rw [hu]
      exact hnew
    · rw [if_neg hu] at hy
      exact I.nd _ _ hy
theorem Inv.fold {n : Int} {rs : List Rope} {b0 : Best} {fe : Int → Int} (p : Pot rs fe) (ok : okRs n rs) : ∀ (l : List (Int × Rope)) {s : Best × Option Int}, (∀ z ∈ l, z ∈ en 0 rs) → Inv n rs b0 s.1 → Inv n rs b0 (l.foldl Rb.rx s).1
  | [], _, _, I => I
  | z :: l, s, h, I => Inv.fold p ok l (s := Rb.rx s z) (fun y hy => h y (List.mem_cons_of_mem _ hy)) (I.rx p ok (h z (List.mem_cons_self ..)))
theorem Inv.it {n : Int} {rs : List Rope} {b0 : Best} {fe : Int → Int} (p : Pot rs fe) (ok : okRs n rs) (h : Src0 n b0) : ∀ t, Inv n rs b0 (Rb.it rs t b0)
  | 0 => Inv.start h
  | t + 1 => Inv.fold p ok (en 0 rs) (s := (Rb.it rs t b0, none)) (fun _ hz => hz) (Inv.it p ok h t)
theorem nd_sub : ∀ {l m : List Int}, l.Nodup → (∀ x ∈ l, x ∈ m) → l.length ≤ m.length
  | [], m, _, _ => Nat.zero_le _
  | x :: l, m, hn, hs => by
    have h1 := List.nodup_cons.mp hn
    have hx := hs x (List.mem_cons_self ..)
    have h2 := nd_sub (l := l) (m := m.erase x) h1.2 fun y hy => (List.mem_erase_of_ne (a := y) (b := x) (fun e : y = x => h1.1 (e ▸ hy))).mpr (hs y (List.mem_cons_of_mem _ hy))
    rw [List.length_erase_of_mem hx] at h2
    have := List.length_pos_of_mem hx
    rw [List.length_cons]
    omega
theorem nd_le {n : Int} (h0 : 0 ≤ n) {l : List Int} (hn : l.Nodup) (hr : ∀ x ∈ l, 0 ≤ x ∧ x ≤ n) : (l.length : Int) ≤ n + 1 := by
  have h1 := nd_sub (m := rg 0 (n + 1)) hn fun x hx => mem_rg.mpr ⟨(hr x hx).1, by have := (hr x hx).2; omega⟩
  rw [rg_length] at h1
  omega
theorem vis_rng {n : Int} {rs : List Rope} (ok : okRs n rs) : ∀ {u : Int} {c : List Int} {k : Int}, wlk rs u c k → 0 ≤ u → u ≤ n → ∀ x ∈ vis rs u c, 0 ≤ x ∧ x ≤ n
  | u, [], k, h, h0, h1, x, hx => by
    simp [vis] at hx
    subst hx
    exact ⟨h0, h1⟩
  | u, i :: c, k, h, h0, h1, x, hx => by
    unfold vis at hx
    rcases List.mem_cons.mp hx with rfl | hx
    · exact ⟨h0, h1⟩
    · have hr := ok.all _ (rp_mem h.1.1 h.1.2)
      exact vis_rng ok (u := (rp rs i).2.1) h.2.2 hr.2.2.1 hr.2.2.2.1 x hx
theorem fold_first : ∀ (l : List (Int × Rope)) {b : Best}, (l.foldl rx (b, none)).2 ≠ none → ∃ z ∈ l, ∃ e, dl b z.2.2.1 = some e ∧ ∀ y, dl b z.2.1 = some y → e.1 + z.2.2.2 < y.1
  | [], b, h => absurd rfl h
  | z :: l, b, h => by
    rcases rx_cases (b, none) z with e | ⟨e, he, hlt, _⟩
    · rw [List.foldl_cons, e] at h
      obtain ⟨y, hy, q⟩ := fold_first l h
      exact ⟨y, List.mem_cons_of_mem _ hy, q⟩
    · exact ⟨z, List.mem_cons_self .., e, he, hlt⟩
/-- after n passes all is settled -/
theorem settled {n : Int} {rs : List Rope} {b0 : Best} {fe : Int → Int} (p : Pot rs fe) (ok : okRs n rs) (h : Src0 n b0) : (ps rs (it rs n.toNat b0)).2 = none := by
  cases hq : (ps rs (it rs n.toNat b0)).2 with
  | none => rfl
  | some u =>
    exfalso
    have n1 : 1 ≤ n := ok.n1
    obtain ⟨z, hz, e, he, hlt⟩ := fold_first (en 0 rs) (b := it rs n.toNat b0) (by
      show (ps rs (it rs n.toNat b0)).2 ≠ none
      rw [hq]
      simp)
    have I := Inv.it p ok h n.toNat
    have hnd := Inv.new p I hz he hlt
    obtain ⟨hr, hrp⟩ := en_rp hz
    obtain ⟨k, hk, hw⟩ := I.wk _ _ he
    have hok := ok.all _ (en_mem hz)
    have hw2 : wlk rs z.2.1 (z.1 :: e.2) k := ⟨hr, by rw [hrp], by rw [hrp]; exact hw⟩
    have hl := nd_le (by omega) hnd (vis_rng ok hw2 hok.1 hok.2.1)
    have hl2 : (z.1 :: e.2).length ≤ n.toNat := by
      unfold vis at hl
      simp only [List.length_cons, List.length_map] at hl ⊢
      omega
    obtain ⟨y, hy, hle⟩ := Le.walk h n.toNat hw2 hk hl2
    have := hlt y hy
    rw [sm_cons, hrp, I.sum _ _ he] at hle
    omega
end Rb

set_option Elab.async false
set_option linter.all false
set_option maxRecDepth 100000
set_option maxHeartbeats 4000000
/-! The tables: least sums of walks; turned over; filled. -/
namespace Rb
open PySem PySem.Spec PyProof.Rows L2
theorem src_one {n k : Int} (h0 : 0 ≤ k) (h1 : k ≤ n) : Src0 n (one k) := ⟨fun j e he => by
  have h2 := dl_mem he
  unfold one at h2
  simp at h2
  obtain ⟨rfl, rfl⟩ := h2
  exact ⟨rfl, h0, h1⟩⟩
theorem src_zero {n : Int} : Src0 n (zero n) := ⟨fun j e he => by
  have h2 := dl_mem he
  unfold zero at h2
  obtain ⟨y, hy, e2⟩ := List.mem_map.mp h2
  cases e2
  have := mem_rg.mp hy
  exact ⟨rfl, this.1, by omega⟩⟩
theorem conv_of {n : Int} {rs : List Rope} {b0 : Best} {fe : Int → Int} (p : Pot rs fe) (ok : okRs n rs) (h : Src0 n b0) : conv n rs b0 := by
  have hs := settled p ok h
  unfold conv
  show (ps rs (ps rs (it rs n.toNat b0)).1).2 = none
  rw [ps_none hs]
  exact hs
theorem okT_of {n : Int} {rs : List Rope} {fe : Int → Int} (p : Pot rs fe) (ok : okRs n rs) : okT n rs := ⟨ok, conv_of p ok src_zero, fun k h0 h1 => conv_of p ok (src_one h0 h1)⟩
theorem tab_eq {n k : Int} {rs : List Rope} {fe : Int → Int} (p : Pot rs fe) (ok : okRs n rs) (h0 : 0 ≤ k) (h1 : k ≤ n) : tab n rs k = it rs n.toNat (one k) := it_end (settled p ok (src_one h0 h1)) (by omega)
def DT (n : Int) (rs : List Rope) : DF := fun u k => val (tab n rs k) u
theorem Df0_eq {n u k : Int} {rs : List Rope} {fe : Int → Int} (p : Pot rs fe) (ok : okRs n rs) (h0 : 0 ≤ k) (h1 : k ≤ n) : Df0 n rs u k = DT n rs u k := by
  unfold DT Df0
  rw [tab_eq p ok h0 h1]
structure Chn (n : Int) (rs : List Rope) (u k : Int) (e : Int × List Int) : Prop where
  wk : wlk rs u e.2 k
  sum : sm rs e.2 = e.1
  nd : (vis rs u e.2).Nodup
  u0 : 0 ≤ u
  u1 : u ≤ n
theorem tab_ch {n u k : Int} {rs : List Rope} {fe : Int → Int} (p : Pot rs fe) (ok : okRs n rs) (h0 : 0 ≤ k) (h1 : k ≤ n) {e : Int × List Int} (h : dl (tab n rs k) u = some e) : Chn n rs u k e := by
  rw [tab_eq p ok h0 h1] at h
  have I := Inv.it p ok (src_one h0 h1) n.toNat
  obtain ⟨j, hj, hw⟩ := I.wk _ _ h
  have hjk : j = k := by
    obtain ⟨y, hy⟩ := Option.isSome_iff_exists.mp hj
    have h2 := dl_mem hy
    unfold one at h2
    simp at h2
    exact h2.1
  subst hjk
  exact ⟨hw, I.sum _ _ h, I.nd _ _ h, (I.rng _ _ h).1, (I.rng _ _ h).2⟩
theorem tab_le {n k : Int} {rs : List Rope} {fe : Int → Int} (p : Pot rs fe) (ok : okRs n rs) (h0 : 0 ≤ k) (h1 : k ≤ n) : ∀ {u : Int} {c : List Int}, wlk rs u c k → Le (tab n rs k) u (sm rs c)
  | u, [], h => by
    cases (show u = k from h)
    unfold tab
    exact Le.it ⟨(0, []), by simp [one, dl], Int.le_refl _⟩ _
  | u, i :: c, h => by
    have ih := tab_le p ok h0 h1 h.2.2
    have h2 := Le.pass (rp_mem h.1.1 h.1.2) ih
    have hs := settled p ok (src_one h0 h1)
    have hf : (ps rs (tab n rs k)).1 = tab n rs k := by
      rw [tab_eq p ok h0 h1]
      exact ps_none hs
    rw [hf, h.2.1] at h2
    rw [sm_cons, Int.add_comm]
    exact h2
theorem DT_some {n u k x : Int} {rs : List Rope} {fe : Int → Int} (p : Pot rs fe) (ok : okRs n rs) (h0 : 0 ≤ k) (h1 : k ≤ n) (h : DT n rs u k = some x) : ∃ c, dl (tab n rs k) u = some (x, c) ∧ Chn n rs u k (x, c) := by
  unfold DT val at h
  cases e : dl (tab n rs k) u with
  | none =>
    rw [e] at h
    cases h
  | some y =>
    rw [e] at h
    cases h
    exact ⟨y.2, rfl, tab_ch p ok h0 h1 e⟩
theorem DT_le {n u k : Int} {rs : List Rope} {fe : Int → Int} (p : Pot rs fe) (ok : okRs n rs) (h0 : 0 ≤ k) (h1 : k ≤ n) {c : List Int} (h : wlk rs u c k) : ∃ y, DT n rs u k = some y ∧ y ≤ sm rs c := by
  obtain ⟨e, he, hl⟩ := tab_le p ok h0 h1 h
  exact ⟨e.1, val_some he, hl⟩
theorem DT_eq {n u k u' k' : Int} {rs rs' : List Rope} {fe fe' : Int → Int} (p : Pot rs fe) (ok : okRs n rs) (p' : Pot rs' fe') (ok' : okRs n rs') (h0 : 0 ≤ k) (h1 : k ≤ n) (h0' : 0 ≤ k') (h1' : k' ≤ n)
    (a : ∀ c, wlk rs u c k → ∃ c', wlk rs' u' c' k' ∧ sm rs' c' ≤ sm rs c) (b : ∀ c, wlk rs' u' c k' → ∃ c', wlk rs u c' k ∧ sm rs c' ≤ sm rs' c) : DT n rs u k = DT n rs' u' k' := by
  cases h : DT n rs u k with
  | some x =>
    obtain ⟨c, _, hc⟩ := DT_some p ok h0 h1 h
    obtain ⟨c', w', l'⟩ := a c hc.wk
    obtain ⟨y, hy, hyl⟩ := DT_le p' ok' h0' h1' w'
    obtain ⟨d, _, hd⟩ := DT_some p' ok' h0' h1' hy
    obtain ⟨d', v', m'⟩ := b d hd.wk
    obtain ⟨z, hz, hzl⟩ := DT_le p ok h0 h1 v'
    rw [h] at hz
    cases hz
    have e1 : sm rs c = x := hc.sum
    have e2 : sm rs' d = y := hd.sum
    rw [hy]
    congr 1
    omega
  | none =>
    cases h' : DT n rs' u' k' with
    | none => rfl
    | some y =>
      obtain ⟨d, _, hd⟩ := DT_some p' ok' h0' h1' h'
      obtain ⟨d', v', _⟩ := b d hd.wk
      obtain ⟨z, hz, _⟩ := DT_le p ok h0 h1 v'
      rw [h] at hz
      cases hz
/-! ### turned over -/
theorem rp_turned {rs : List Rope} {i : Int} (h : 0 ≤ i ∧ i < rs.length) : rp (turned rs) i = turn (rp rs i) := by
  obtain ⟨j, rfl⟩ := Int.eq_ofNat_of_zero_le h.1
  have hj : j < rs.length := by omega
  unfold rp turned
  simp [hj]
theorem wlk_rng {rs : List Rope} : ∀ {u : Int} {c : List Int} {k : Int}, wlk rs u c k → ∀ i ∈ c, 0 ≤ i ∧ i < rs.length
  | u, i :: c, k, h, j, hj => by
    rcases List.mem_cons.mp hj with rfl | hj
    · exact h.1
    · exact wlk_rng h.2.2 j hj
theorem sm_turned {rs : List Rope} : ∀ {c : List Int}, (∀ i ∈ c, 0 ≤ i ∧ i < rs.length) → sm (turned rs) c = sm rs c
  | [], _ => rfl
  | i :: c, h => by
    rw [sm_cons, sm_cons, sm_turned fun j hj => h j (List.mem_cons_of_mem _ hj), rp_turned (h i (List.mem_cons_self ..))]
    rfl
theorem sm_rev (rs : List Rope) (c : List Int) : sm rs c.reverse = sm rs c := by
  induction c with
  | nil => rfl
  | cons i c ih =>
    rw [List.reverse_cons, sm_app, ih, sm_cons, sm_cons, sm_nil]
    omega
theorem wlk_turn {rs : List Rope} : ∀ {u : Int} {c : List Int} {k : Int}, wlk rs u c k → wlk (turned rs) k c.reverse u
  | u, [], k, h => by
    cases (show u = k from h)
    exact rfl
  | u, i :: c, k, h => by
    rw [List.reverse_cons]
    refine wlk_app.mpr ⟨(rp rs i).2.1, wlk_turn h.2.2, ⟨h.1.1, ?_⟩, ?_, ?_⟩
    · unfold turned
      rw [List.length_map]
      exact h.1.2
    · rw [rp_turned h.1]
      rfl
    · rw [rp_turned h.1]
      exact h.2.1
theorem turned_turned (rs : List Rope) : turned (turned rs) = rs := by
  unfold turned
  rw [List.map_map]
  have : turn ∘ turn = id := by
    funext x
    rfl
  rw [this, List.map_id]
theorem Pot.turned {rs : List Rope} {fe : Int → Int} (p : Pot rs fe) : Pot (turned rs) fun k => 0 - fe k := fun r hr => by
  obtain ⟨q, hq, rfl⟩ := List.mem_map.mp hr
  have := p q hq
  show 0 - fe q.2.1 - (0 - fe q.1) ≤ q.2.2
  omega
theorem turn_eq {n u k : Int} {rs : List Rope} {fe : Int → Int} (p : Pot rs fe) (ok : okRs n rs) (hu0 : 0 ≤ u) (hu1 : u ≤ n) (h0 : 0 ≤ k) (h1 : k ≤ n) : DT n rs u k = DT n (turned rs) k u := by
  have key : ∀ (r : List Rope) (a c : Int) (w : List Int), wlk r a w c → ∃ w', wlk (turned r) c w' a ∧ sm (turned r) w' ≤ sm r w := fun r a c w h => ⟨w.reverse, wlk_turn h, by
    rw [sm_turned fun i hi => wlk_rng h i (List.mem_reverse.mp hi), sm_rev]
    exact Int.le_refl _⟩
  refine DT_eq p ok p.turned ok.turned h0 h1 hu0 hu1 (fun c h => key rs u k c h) fun c h => ?_
  have := key (turned rs) k u c h
  rwa [turned_turned] at this
/-! ### filled -/
def Cov (rs rs' : List Rope) : Prop := ∀ r ∈ rs', ∃ i, (0 ≤ i ∧ i < (rs.length : Int)) ∧ (rp rs i).1 = r.1 ∧ (rp rs i).2.1 = r.2.1 ∧ (rp rs i).2.2 ≤ r.2.2
theorem wlk_cov {rs rs' : List Rope} (h : Cov rs rs') : ∀ {u : Int} {c : List Int} {k : Int}, wlk rs' u c k → ∃ c', wlk rs u c' k ∧ sm rs c' ≤ sm rs' c
  | u, [], k, hw => ⟨[], hw, Int.le_refl _⟩
  | u, i :: c, k, hw => by
    obtain ⟨c', w', l'⟩ := wlk_cov h hw.2.2
    obtain ⟨j, hj, e1, e2, e3⟩ := h _ (rp_mem hw.1.1 hw.1.2)
    refine ⟨j :: c', ⟨hj, by rw [e1]; exact hw.2.1, by rw [e2]; exact w'⟩, ?_⟩
    rw [sm_cons, sm_cons]
    omega
theorem Cov.turned {rs rs' : List Rope} (h : Cov rs rs') : Cov (turned rs) (turned rs') := fun r hr => by
  obtain ⟨q, hq, rfl⟩ := List.mem_map.mp hr
  obtain ⟨i, hi, e1, e2, e3⟩ := h q hq
  refine ⟨i, ⟨hi.1, by unfold Rb.turned; rw [List.length_map]; exact hi.2⟩, ?_, ?_, ?_⟩
  · rw [rp_turned hi]
    exact e2
  · rw [rp_turned hi]
    exact e1
  · rw [rp_turned hi]
    exact e3
theorem cov_eq {n u k : Int} {rs rs' : List Rope} {fe fe' : Int → Int} (p : Pot rs fe) (ok : okRs n rs) (p' : Pot rs' fe') (ok' : okRs n rs') (a : Cov rs rs') (b : Cov rs' rs) (h0 : 0 ≤ k) (h1 : k ≤ n) : DT n rs u k = DT n rs' u k :=
  DT_eq p ok p' ok' h0 h1 h0 h1 (fun c h => wlk_cov b h) fun c h => wlk_cov a h
/-! ### chains that are told -/
theorem chd_wlk {rs : List Rope} : ∀ {u : Int} {c : List Int} {k : Int}, wlk rs u c k → chd (c.map (rp rs)) = true
  | u, [], k, h => rfl
  | u, [i], k, h => rfl
  | u, i :: j :: c, k, h => by
    have h2 := chd_wlk h.2.2
    have h3 := h.2.2.2.1
    have h2 : chd (rp rs j :: c.map (rp rs)) = true := h2
    show (decide ((rp rs i).2.1 = (rp rs j).1) && chd (rp rs j :: c.map (rp rs))) = true
    rw [h2, Bool.and_true, decide_eq_true_eq]
    exact h3.symm
theorem last_wlk {rs : List Rope} : ∀ {u : Int} {c : List Int} {k : Int}, wlk rs u c k → (u :: c.map fun i => (rp rs i).2.1).getLastD 0 = k
  | u, [], k, h => h
  | u, i :: c, k, h => by
    have := last_wlk h.2.2
    rw [List.map_cons]
    rw [List.getLastD_cons]
    exact this
theorem okC_wlk {rs : List Rope} {u : Int} {c : List Int} {k : Int} (h : wlk rs u c k) (ne : c ≠ []) (hl : c.length ≤ 1000) : okC rs c := ⟨ne, wlk_rng h, chd_wlk h, hl⟩
theorem ld_wlk {rs : List Rope} {u : Int} {c : List Int} {k : Int} (h : wlk rs u c k) (ne : c ≠ []) : ld rs c u k = true := by
  cases c with
  | nil => exact absurd rfl ne
  | cons i r =>
    have hl := last_wlk h
    have hu := h.2.1
    unfold ld
    rw [kn_eq (r := r) rfl, hu, hl]
    simp
theorem Chn.len {n u k : Int} {rs : List Rope} {e : Int × List Int} (c : Chn n rs u k e) (ok : okRs n rs) : (e.2.length : Int) ≤ n := by
  have n1 : 1 ≤ n := ok.n1
  have hl := nd_le (by omega) c.nd (vis_rng ok c.wk c.u0 c.u1)
  unfold vis at hl
  simp only [List.length_cons, List.length_map] at hl
  omega
end Rb

set_option Elab.async false
set_option linter.all false
set_option maxRecDepth 100000
set_option maxHeartbeats 4000000
/-! Where falls lead. -/
namespace Rb
open PySem PySem.Spec PyProof.Rows L2
theorem dl_cons {α : Type} (p : Int × α) (l : List (Int × α)) (k : Int) : dl (p :: l) k = if p.1 = k then some p.2 else dl l k := by
  unfold dl
  by_cases h : p.1 = k
  · simp [List.find?_cons, h]
  · simp [List.find?_cons, h]
theorem dl_none {α : Type} {l : List (Int × α)} {k : Int} (h : k ∉ l.map (·.1)) : dl l k = none := by
  cases e : dl l k with
  | none => rfl
  | some x => exact absurd (keys_dl (by rw [e]; rfl)) h
theorem ends_dl {rs : List Rope} {k : Int} : ∀ {st : Stops} {sl : Slips}, (st.map (·.1)).Nodup → dl (m_ends rs sl st) k = match dl st k with
    | some c => some (0 - sm rs c)
    | none => dl sl k
  | [], sl, _ => rfl
  | y :: st, sl, h => by
    have h2 := List.nodup_cons.mp (by simpa using h : (y.1 :: st.map (·.1)).Nodup)
    show dl (m_ends rs (dp sl y.1 (0 - sm rs y.2)) st) k = _
    rw [ends_dl h2.2, dl_cons]
    by_cases e : y.1 = k
    · rw [if_pos e, dl_none (by rw [← e]; exact h2.1), dl_dp, if_pos e.symm]
    · rw [if_neg e]
      cases dl st k with
      | some c => rfl
      | none =>
        show dl (dp sl y.1 _) k = dl sl k
        rw [dl_dp, if_neg fun z => e z.symm]
theorem dl_mapv {α β : Type} (g : Int × α → β) (k : Int) : ∀ (l : List (Int × α)), dl (l.map fun z => (z.1, g z)) k = (dl l k).map fun x => g (k, x)
  | [] => rfl
  | p :: l => by
    rw [List.map_cons, dl_cons, dl_cons, dl_mapv g k l]
    by_cases e : p.1 = k
    · rw [if_pos e, if_pos e]
      subst e
      rfl
    · rw [if_neg e, if_neg e]
theorem stops_dl {n k : Int} {rs : List Rope} : ∀ {sl : Slips}, (sl.map (·.1)).Nodup → dl (m_stops n rs sl) k = (dl sl k).bind fun to => (stop1 n rs (k, to)).map (·.2)
  | [], _ => rfl
  | z :: sl, h => by
    have h2 := List.nodup_cons.mp (by simpa using h : (z.1 :: sl.map (·.1)).Nodup)
    have ih := stops_dl (n := n) (k := k) (rs := rs) h2.2
    have e : m_stops n rs (z :: sl) = (stop1 n rs z).toList ++ m_stops n rs sl := by
      unfold m_stops
      cases q : stop1 n rs z <;> simp [q]
    rw [e, dl_cons]
    by_cases hk : z.1 = k
    · subst hk
      rw [if_pos rfl]
      have hn : dl (m_stops n rs sl) z.1 = none := by
        rw [ih, dl_none h2.1]
        rfl
      cases q : stop1 n rs z with
      | none =>
        show dl (m_stops n rs sl) z.1 = ((stop1 n rs (z.1, z.2)).map (·.2))
        rw [hn]
        show _ = (stop1 n rs z).map (·.2)
        rw [q]
        rfl
      | some p =>
        show dl (p :: m_stops n rs sl) z.1 = ((stop1 n rs z).map (·.2))
        rw [q, dl_cons, if_pos (stop1_key q)]
        rfl
    · rw [if_neg hk]
      cases q : stop1 n rs z with
      | none => exact ih
      | some p =>
        show dl (p :: m_stops n rs sl) k = _
        rw [dl_cons, if_neg (by rw [stop1_key q]; exact hk)]
        exact ih
/-- the case in hand -/
structure Fs (n : Int) (T : List Rope) (H : List Int) (S : Slips) : Prop where
  ok : okRs n T
  st : isSt n T H
  ks : okSl n S
  l8 : S.length ≤ 8
abbrev EE (n : Int) (T : List Rope) (S : Slips) : Int → Option Int := dl (lims (DT n T) S)
def cap (n : Int) (T : List Rope) (H : List Int) (S : Slips) (k : Int) : Int := lcap (0 :: H) (EE n T S) k
def XX (n : Int) (T : List Rope) (H : List Int) (S : Slips) (c : Int) : Int := lfall n (DT n T) (0 :: H) (EE n T S) c
section
variable {n : Int} {T : List Rope} {H : List Int} {S : Slips}
theorem Fs.pot (h : Fs n T H S) : Pot T (hi H) := fun r hr => by
  have := h.st.ok r hr
  unfold room at this
  omega
theorem Fs.n1 (h : Fs n T H S) : 1 ≤ n := h.ok.n1
theorem EE_eq (n : Int) (T : List Rope) (S : Slips) (k : Int) : EE n T S k = (dl S k).map fun to => lv (DT n T) (k, to) := dl_mapv (lv (DT n T)) k S
theorem EE_rng (h : Fs n T H S) {k e : Int} (he : EE n T S k = some e) : 1 ≤ k ∧ k ≤ n := by
  have h2 := keys_dl (kvs := lims (DT n T) S) (k := k) (by rw [show dl (lims (DT n T) S) k = some e from he]; rfl)
  obtain ⟨p, hp, rfl⟩ := List.mem_map.mp h2
  obtain ⟨y, hy, rfl⟩ := List.mem_map.mp hp
  exact h.ks.rng y hy
theorem Fs.ends (h : Fs n T H S) (k : Int) : dl (f_ends n T S) k = EE n T S k := by
  unfold f_ends
  rw [ends_dl (stops_nd h.ks.nd), stops_dl h.ks.nd, EE_eq]
  cases hs : dl S k with
  | none => rfl
  | some to =>
    have hk : 1 ≤ k ∧ k ≤ n := by
      have h2 := keys_dl (kvs := S) (k := k) (by rw [hs]; rfl)
      obtain ⟨p, hp, rfl⟩ := List.mem_map.mp h2
      exact h.ks.rng p hp
    show (match ((stop1 n T (k, to)).map (·.2)) with | some c => some (0 - sm T c) | none => some to) = some (lv (DT n T) (k, to))
    unfold stop1 lv
    cases e : dl (tab n T k) 0 with
    | none =>
      have hd : DT n T 0 k = none := val_none e
      simp only [hd]
      rfl
    | some q =>
      have hd : DT n T 0 k = some q.1 := val_some e
      simp only [hd]
      have hc := tab_ch h.pot h.ok (by omega) hk.2 e
      by_cases hlt : to < 0 - q.1
      · rw [if_pos hlt, if_pos hlt]
        show some (0 - sm T q.2) = _
        rw [hc.sum]
      · rw [if_neg hlt, if_neg (by omega)]
        rfl
theorem en_rg (H : List Int) : en 1 H = (rg 1 ((H.length : Int) + 1)).map fun k => (k, hi H k) := by
  refine List.ext_getElem? fun i => ?_
  by_cases hi' : i < H.length
  · have h1 : H[i]? = some H[i] := by simp [hi']
    rw [en_at h1]
    unfold rg
    rw [List.getElem?_map, List.getElem?_map, List.getElem?_range (by omega)]
    show _ = some ((1 + (i : Int)), hi H (1 + (i : Int)))
    unfold hi
    have e : (1 + (i : Int)).toNat = i + 1 := by omega
    rw [e]
    simp [hi']
  · rw [List.getElem?_eq_none (by rw [en_length]; omega), List.getElem?_eq_none (by rw [List.length_map, rg_length]; omega)]
theorem rg_cons {n : Int} (h : 0 ≤ n) : rg 0 (n + 1) = 0 :: rg 1 (n + 1) := by
  unfold rg
  have e : (n + 1 - 0).toNat = (n + 1 - 1).toNat + 1 := by omega
  rw [e, List.range_succ_eq_map]
  simp
  omega
theorem Fs.caps (h : Fs n T H S) : m_caps H (f_ends n T S) = (rg 0 (n + 1)).map fun k => (k, cap n T H S k) := by
  have n1 := h.n1
  have hl := h.st.len
  rw [rg_cons (by omega), List.map_cons]
  unfold m_caps
  congr 1
  · have e : EE n T S 0 = none := by
      cases q : EE n T S 0 with
      | none => rfl
      | some e =>
        have := EE_rng h q
        omega
    show (0, (0 : Int)) = (0, lcap (0 :: H) (EE n T S) 0)
    unfold lcap
    rw [e]
    rfl
  · rw [en_rg, hl, List.map_map]
    refine List.map_congr_left fun k hk => ?_
    show (k, cap1 (f_ends n T S) (k, hi H k)) = (k, lcap (0 :: H) (EE n T S) k)
    congr 1
    unfold cap1 lcap
    rw [h.ends]
    cases EE n T S k with
    | none => simp [hi_iget]
    | some e => rfl
theorem Fs.fall (h : Fs n T H S) (c : Int) : fall1 n T H (f_ends n T S) c = XX n T H S c := by
  unfold fall1 XX lfall
  congr 1
  unfold m_some m_low lsome
  rw [h.caps, List.map_map, List.filter_map, List.map_map]
  rfl
theorem Fs.hs (h : Fs n T H S) {c : Int} (h0 : 1 ≤ c) (h1 : c ≤ n) : hi (f_hs n T H S) c = XX n T H S c := by
  have hl := h.st.len
  obtain ⟨j, rfl⟩ : ∃ j : Nat, c = 1 + j := ⟨(c - 1).toNat, by omega⟩
  have e : (1 + (j : Int)).toNat = j + 1 := by omega
  unfold hi f_hs m_fallen rg
  rw [e]
  simp only [List.getD_eq_getElem?_getD, List.getElem?_cons_succ, List.getElem?_map]
  rw [List.getElem?_range (by omega)]
  exact h.fall _
theorem Fs.hsl (h : Fs n T H S) : ((f_hs n T H S).length : Int) = n := by
  have hl := h.st.len
  have n1 := h.n1
  unfold f_hs m_fallen
  rw [List.length_map, rg_length]
  omega
theorem cap_le (k : Int) : cap n T H S k ≤ hi H k := by
  unfold cap lcap
  rw [hi_iget]
  cases EE n T S k with
  | none => exact Int.le_refl _
  | some e =>
    simp only
    split <;> omega
theorem cap_E {k e : Int} (h : EE n T S k = some e) : cap n T H S k ≤ e := by
  unfold cap lcap
  rw [h]
  simp only
  split <;> omega
theorem cap_or (k : Int) : cap n T H S k = hi H k ∨ (EE n T S k = some (cap n T H S k) ∧ cap n T H S k < hi H k) := by
  unfold cap lcap
  rw [hi_iget]
  cases EE n T S k with
  | none => exact .inl rfl
  | some e =>
    simp only
    by_cases c : e < iget (0 :: H) k
    · rw [if_pos c]
      exact .inr ⟨rfl, c⟩
    · rw [if_neg c]
      exact .inl rfl
theorem EE_low {k e x : Int} (h : EE n T S k = some e) (hx : DT n T 0 k = some x) : 0 - x ≤ e := by
  rw [EE_eq] at h
  cases hs : dl S k with
  | none =>
    rw [hs] at h
    cases h
  | some to =>
    rw [hs] at h
    have h2 : lv (DT n T) (k, to) = e := Option.some.inj h
    unfold lv at h2
    simp only [hx] at h2
    split at h2 <;> omega
theorem Fs.dpot (h : Fs n T H S) {fe : Int → Int} (p : Pot T fe) {u k x : Int} (h0 : 0 ≤ k) (h1 : k ≤ n) (hx : DT n T u k = some x) : fe u - fe k ≤ x := by
  obtain ⟨c, _, hc⟩ := DT_some h.pot h.ok h0 h1 hx
  have h2 := wlk_pot p hc.wk
  have h3 : sm T c = x := hc.sum
  simp only at h2
  omega
theorem Fs.self (h : Fs n T H S) {c : Int} (h0 : 0 ≤ c) (h1 : c ≤ n) : DT n T c c = some 0 := by
  obtain ⟨y, hy, hl⟩ := DT_le h.pot h.ok h0 h1 (u := c) (c := []) rfl
  have := h.dpot h.pot h0 h1 hy
  rw [sm_nil] at hl
  have e : y = 0 := by omega
  rw [hy, e]
theorem Fs.le (h : Fs n T H S) {c a x : Int} (h0 : 0 ≤ a) (h1 : a ≤ n) (hx : DT n T c a = some x) : XX n T H S c ≤ cap n T H S a + x := by
  unfold XX lfall
  refine imin_le _ _ (List.mem_map.mpr ⟨a, List.mem_filter.mpr ⟨mem_rg.mpr ⟨h0, by omega⟩, by rw [hx]; rfl⟩, ?_⟩)
  rw [hx]
  rfl
theorem Fs.at_ (h : Fs n T H S) {c : Int} (h0 : 0 ≤ c) (h1 : c ≤ n) : ∃ a x, 0 ≤ a ∧ a ≤ n ∧ DT n T c a = some x ∧ XX n T H S c = cap n T H S a + x := by
  have hs := h.self h0 h1
  have hne : lsome n (DT n T) (0 :: H) (EE n T S) c ≠ [] := by
    intro e
    have h2 : lcap (0 :: H) (EE n T S) c + (DT n T c c).getD 0 ∈ lsome n (DT n T) (0 :: H) (EE n T S) c := List.mem_map.mpr ⟨c, List.mem_filter.mpr ⟨mem_rg.mpr ⟨h0, by omega⟩, by rw [hs]; rfl⟩, rfl⟩
    rw [e] at h2
    cases h2
  have hm := imin_mem _ hne
  obtain ⟨a, ha, e⟩ := List.mem_map.mp hm
  obtain ⟨ha1, ha2⟩ := List.mem_filter.mp ha
  have hr := mem_rg.mp ha1
  cases hx : DT n T c a with
  | none =>
    rw [hx] at ha2
    cases ha2
  | some x =>
    refine ⟨a, x, hr.1, by omega, hx, ?_⟩
    unfold XX lfall
    rw [← e, hx]
    rfl
theorem Fs.xle (h : Fs n T H S) {c : Int} (h0 : 0 ≤ c) (h1 : c ≤ n) : XX n T H S c ≤ cap n T H S c := by
  have := h.le h0 h1 (h.self h0 h1)
  omega
theorem Fs.xpot (h : Fs n T H S) : Pot T (XX n T H S) := fun r hr => by
  have ok := h.ok.all r hr
  obtain ⟨a, x, a0, a1, hx, e⟩ := h.at_ ok.2.2.1 ok.2.2.2.1
  obtain ⟨c, _, hc⟩ := DT_some h.pot h.ok a0 a1 hx
  obtain ⟨j, hj⟩ := List.mem_iff_getElem?.mp hr
  have hj2 := (List.getElem?_eq_some_iff.mp hj).1
  have hrp : rp T (j : Int) = r := by
    unfold rp
    simp [hj]
  obtain ⟨y, hy, hl⟩ := DT_le h.pot h.ok a0 a1 (u := r.1) (c := (j : Int) :: c) ⟨⟨by omega, by omega⟩, by rw [hrp], by rw [hrp]; exact hc.wk⟩
  have h2 := h.le a0 a1 hy
  have h3 : sm T c = x := hc.sum
  rw [sm_cons, hrp, h3] at hl
  omega
theorem Fs.x0 (h : Fs n T H S) : XX n T H S 0 = 0 := by
  have n1 := h.n1
  have h1 := h.xle (c := 0) (Int.le_refl _) (by omega)
  have h2 : cap n T H S 0 ≤ hi H 0 := cap_le 0
  have h3 : hi H 0 = 0 := rfl
  obtain ⟨a, x, a0, a1, hx, e⟩ := h.at_ (c := 0) (Int.le_refl _) (by omega)
  have h4 := h.dpot h.pot a0 a1 hx
  rcases cap_or (n := n) (T := T) (H := H) (S := S) a with q | ⟨q, _⟩
  · omega
  · have := EE_low q hx
    omega
theorem Fs.hx (h : Fs n T H S) {c : Int} (h0 : 0 ≤ c) (h1 : c ≤ n) : hi (f_hs n T H S) c = XX n T H S c := by
  by_cases e : c = 0
  · subst e
    rw [h.x0]
    rfl
  · exact h.hs (by omega) h1
theorem Fs.stand (h : Fs n T H S) : isSt n T (f_hs n T H S) := ⟨h.hsl, fun r hr => by
  have ok := h.ok.all r hr
  have := h.xpot r hr
  unfold room
  rw [h.hx ok.1 ok.2.1, h.hx ok.2.2.1 ok.2.2.2.1]
  omega⟩
theorem Fs.low (h : Fs n T H S) {c : Int} (h0 : 0 ≤ c) (h1 : c ≤ n) : hi (f_hs n T H S) c ≤ hi H c := by
  rw [h.hx h0 h1]
  have h2 := h.xle h0 h1
  have h3 : cap n T H S c ≤ hi H c := cap_le c
  omega
theorem Fs.lowE (h : Fs n T H S) {c e : Int} (he : EE n T S c = some e) : hi (f_hs n T H S) c ≤ e := by
  have hr := EE_rng h he
  rw [h.hx (by omega) hr.2]
  have h2 := h.xle (c := c) (by omega) hr.2
  have h3 : cap n T H S c ≤ e := cap_E he
  omega
/-- one that is stopped -/
theorem Fs.stop (h : Fs n T H S) {z : Int × Int} (hz : z ∈ S) {p : Int × List Int} (hp : stop1 n T z = some p) : p.1 = z.1 ∧ ∃ x, dl (tab n T z.1) 0 = some (x, p.2) ∧ z.2 < 0 - x ∧ Chn n T 0 z.1 (x, p.2) ∧ hi (f_hs n T H S) z.1 = 0 - x ∧ dl S z.1 = some z.2 := by
  have hk := stop1_key hp
  have hr := h.ks.rng z hz
  have hS := dl_at h.ks.nd z hz
  unfold stop1 at hp
  cases e : dl (tab n T z.1) 0 with
  | none =>
    rw [e] at hp
    cases hp
  | some q =>
    rw [e] at hp
    simp only at hp
    by_cases hlt : z.2 < 0 - q.1
    · rw [if_pos hlt] at hp
      cases hp
      have hd : DT n T 0 z.1 = some q.1 := val_some e
      have hE : EE n T S z.1 = some (0 - q.1) := by
        rw [EE_eq, hS]
        show some (lv (DT n T) (z.1, z.2)) = _
        unfold lv
        simp only [hd]
        rw [if_pos hlt]
      have h1 := h.lowE hE
      have h2 := h.dpot h.xpot (by omega) hr.2 hd
      rw [h.x0, ← h.hx (by omega) hr.2] at h2
      exact ⟨rfl, q.1, rfl, hlt, tab_ch h.pot h.ok (by omega) hr.2 e, by omega, hS⟩
    · rw [if_neg hlt] at hp
      cases hp
end
end Rb

set_option Elab.async false
set_option linter.all false
set_option maxRecDepth 100000
set_option maxHeartbeats 4000000
/-! Who is pulled by whom, never round. -/
namespace Rb
open PySem PySem.Spec PyProof.Rows L2
theorem mem_down {n c : Int} {H hs : List Int} : c ∈ m_down n H hs ↔ (1 ≤ c ∧ c ≤ n) ∧ hi hs c < hi H c := by
  unfold m_down
  rw [List.mem_filter, mem_rg, decide_eq_true_eq]
  constructor
  · rintro ⟨h1, h2⟩
    exact ⟨⟨h1.1, by omega⟩, h2⟩
  · rintro ⟨h1, h2⟩
    exact ⟨⟨h1.1, by omega⟩, h2⟩
theorem end_vis {rs : List Rope} : ∀ {u : Int} {c : List Int} {k : Int}, wlk rs u c k → k ∈ vis rs u c
  | u, [], k, h => by
    cases (show u = k from h)
    exact List.mem_cons_self ..
  | u, i :: c, k, h => List.mem_cons_of_mem _ (end_vis (u := (rp rs i).2.1) h.2.2)
section
variable {n : Int} {T : List Rope} {H : List Int} {S : Slips}
/-- why one is lower -/
theorem Fs.why (h : Fs n T H S) {c : Int} (hc : c ∈ m_down n H (f_hs n T H S)) : ∃ a ch, wlk T c ch a ∧ (vis T c ch).Nodup ∧ (a ∈ m_down n H (f_hs n T H S) ∧ EE n T S a = some (hi (f_hs n T H S) a)) ∧
    ∀ c1 c2 v, ch = c1 ++ c2 → wlk T c c1 v → v ∈ m_down n H (f_hs n T H S) ∧ hi (f_hs n T H S) v = cap n T H S a + sm T c2 := by
  obtain ⟨hr, hlt⟩ := mem_down.mp hc
  rw [h.hx (by omega) hr.2] at hlt
  obtain ⟨a, x, a0, a1, hx, e⟩ := h.at_ (c := c) (by omega) hr.2
  obtain ⟨ch, _, hch⟩ := DT_some h.pot h.ok a0 a1 hx
  have hs : sm T ch = x := hch.sum
  have key : ∀ c1 c2 v, ch = c1 ++ c2 → wlk T c c1 v → (v ∈ m_down n H (f_hs n T H S) ∧ hi (f_hs n T H S) v = cap n T H S a + sm T c2) := fun c1 c2 v ec w1 => by
    have hw : wlk T c (c1 ++ c2) a := by
      rw [← ec]
      exact hch.wk
    obtain ⟨m, w1', w2⟩ := wlk_app.mp hw
    have em := wlk_end w1' w1
    subst em
    have hvis : m ∈ vis T c c1 := end_vis w1
    have hvr := vis_rng h.ok w1 (by omega) hr.2 m hvis
    obtain ⟨y, hy, hyl⟩ := DT_le h.pot h.ok a0 a1 w2
    have h1 := h.le a0 a1 hy
    have h2 := wlk_pot h.xpot w1
    have h3 := wlk_pot h.pot w1
    have h4 : sm T c1 + sm T c2 = x := by rw [← sm_app, ← ec, hs]
    have hX : XX n T H S m = cap n T H S a + sm T c2 := by omega
    have hlt2 : XX n T H S m < hi H m := by omega
    have hm0 : m ≠ 0 := by
      intro e0
      subst e0
      rw [h.x0] at hlt2
      exact absurd hlt2 (by show ¬ (0 : Int) < 0; decide)
    refine ⟨mem_down.mpr ⟨⟨by omega, hvr.2⟩, ?_⟩, ?_⟩
    · rw [h.hx hvr.1 hvr.2]
      exact hlt2
    · rw [h.hx hvr.1 hvr.2]
      exact hX
  obtain ⟨ha, hae⟩ := key ch [] a (by simp) hch.wk
  rw [sm_nil, Int.add_zero] at hae
  refine ⟨a, ch, hch.wk, hch.nd, ⟨ha, ?_⟩, key⟩
  rcases cap_or (n := n) (T := T) (H := H) (S := S) a with q | ⟨q, _⟩
  · have := (mem_down.mp ha).2
    omega
  · rw [hae]
    exact q
theorem pstep_keys {hs down : List Int} {acc : Pulls} {z : Int × Rope} {k : Int} (h : (dl acc k).isSome = true) : (dl (pstep hs down acc z) k).isSome = true := by
  unfold pstep
  split
  · rw [dl_dp]
    split
    · rfl
    · exact h
  · exact h
theorem pfold_keys {hs down : List Int} : ∀ (l : List (Int × Rope)) {acc : Pulls} {k : Int}, (dl acc k).isSome = true → (dl (l.foldl (pstep hs down) acc) k).isSome = true
  | [], _, _, h => h
  | z :: l, acc, k, h => pfold_keys l (acc := pstep hs down acc z) (pstep_keys h)
theorem pit_keys {rs : List Rope} {hs down : List Int} {acc : Pulls} {k : Int} (h : (dl acc k).isSome = true) : ∀ t, (dl (pit rs hs down t acc) k).isSome = true
  | 0 => h
  | t + 1 => pfold_keys (en 0 rs) (pit_keys h t)
theorem ppass_new {rs : List Rope} {hs down : List Int} {acc : Pulls} {r : Rope} (hr : r ∈ rs) (hd : r.1 ∈ down) (hl : (dl acc r.2.1).isSome = true) (h0 : room r hs = 0) : (dl (ppass rs hs down acc) r.1).isSome = true := by
  obtain ⟨j, hj⟩ := List.mem_iff_getElem?.mp hr
  have hz := en_at (lo := 0) hj
  obtain ⟨l1, l2, e⟩ := List.append_of_mem (List.mem_of_getElem? hz)
  unfold ppass
  rw [e, List.foldl_append, List.foldl_cons]
  refine pfold_keys l2 ?_
  have h1 := pfold_keys (hs := hs) (down := down) l1 hl
  generalize l1.foldl (pstep hs down) acc = a at h1
  unfold pstep
  cases q : (dl a r.1).isSome with
  | true =>
    split
    · rw [dl_dp, if_pos rfl]
      rfl
    · exact q
  | false =>
    rw [if_pos (by simp [hd, q, h1, h0]), dl_dp, if_pos rfl]
    rfl
theorem pull0_dl {hs down : List Int} {ends : Slips} {c : Int} (hc : c ∈ down) (he : ends1 hs ends c = true) : (dl (pull0 hs down ends) c).isSome = true := by
  refine dl_keys ?_
  unfold pull0
  rw [List.map_map]
  exact List.mem_map.mpr ⟨c, List.mem_filter.mpr ⟨hc, he⟩, rfl⟩
theorem Fs.ends1 (h : Fs n T H S) {a : Int} (ha : EE n T S a = some (hi (f_hs n T H S) a)) : Rb.ends1 (f_hs n T H S) (f_ends n T S) a = true := by
  unfold Rb.ends1
  rw [h.ends, ha]
  simp
theorem Fs.found (h : Fs n T H S) {c : Int} (hc : c ∈ m_down n H (f_hs n T H S)) : (dl (pfin n T H (f_hs n T H S) (f_ends n T S)) c).isSome = true := by
  obtain ⟨a, ch, hw, hnd, ⟨ha, hae⟩, key⟩ := h.why hc
  have main : ∀ (c2 c1 : List Int) (v : Int) (t : Nat), ch = c1 ++ c2 → wlk T c c1 v → c2.length ≤ t → (dl (pit T (f_hs n T H S) (m_down n H (f_hs n T H S)) t (pull0 (f_hs n T H S) (m_down n H (f_hs n T H S)) (f_ends n T S))) v).isSome = true := by
    intro c2
    induction c2 with
    | nil =>
      intro c1 v t ec w1 _
      rw [List.append_nil] at ec
      subst ec
      have e := wlk_end w1 hw
      subst e
      exact pit_keys (pull0_dl ha (h.ends1 hae)) t
    | cons i c2 ih =>
      intro c1 v t ec w1 hl
      cases t with
      | zero => simp at hl
      | succ t =>
        have hw' : wlk T c (c1 ++ i :: c2) a := by
          rw [← ec]
          exact hw
        obtain ⟨m, w1', w2⟩ := wlk_app.mp hw'
        have em := wlk_end w1' w1
        subst em
        have w3 : wlk T c (c1 ++ [i]) (rp T i).2.1 := wlk_app.mpr ⟨m, w1, w2.1, w2.2.1, rfl⟩
        have hi1 := ih (c1 ++ [i]) (rp T i).2.1 t (by rw [ec]; simp) w3 (by simpa using hl)
        obtain ⟨d1, e1⟩ := key c1 (i :: c2) m ec w1
        obtain ⟨d2, e2⟩ := key (c1 ++ [i]) c2 (rp T i).2.1 (by rw [ec]; simp) w3
        have hr := ppass_new (hs := f_hs n T H S) (down := m_down n H (f_hs n T H S)) (rp_mem w2.1.1 w2.1.2) (by rw [w2.2.1]; exact d1) hi1 (by
          unfold room
          rw [w2.2.1, e1, e2, sm_cons]
          omega)
        rw [w2.2.1] at hr
        exact hr
  have hsub := nd_sub hnd fun v hv => by
    obtain ⟨c1, c2, ec, w1, _⟩ := vis_split hw hv
    exact (key c1 c2 v ec w1).1
  unfold vis at hsub
  simp only [List.length_cons, List.length_map] at hsub
  exact main ch [] c _ rfl rfl (by omega)
end
/-! ### never round -/
structure PInv (rs : List Rope) (hs down : List Int) (ends : Slips) (acc : Pulls) : Prop where
  ok : ∀ p ∈ acc, p.1 ∈ down ∧ okPull rs hs down ends p.1 p.2
  nd : (acc.map (·.1)).Nodup
  rank : ∀ l1 c k l2, acc = l1 ++ (c, some k) :: l2 → (rp rs k).2.1 ∈ l1.map (·.1)
theorem PInv.start {rs : List Rope} {hs down : List Int} {ends : Slips} (hd : down.Nodup) : PInv rs hs down ends (pull0 hs down ends) := by
  refine ⟨fun p hp => ?_, ?_, fun l1 c k l2 e => ?_⟩
  · obtain ⟨c, hc, rfl⟩ := List.mem_map.mp hp
    exact ⟨(List.mem_filter.mp hc).1, (List.mem_filter.mp hc).2⟩
  · unfold pull0
    rw [List.map_map]
    have : ((fun p : Int × Option Int => p.1) ∘ fun c => (c, (none : Option Int))) = id := rfl
    rw [this, List.map_id]
    exact hd.filter _
  · have : (c, some k) ∈ pull0 hs down ends := by
      rw [e]
      simp
    obtain ⟨_, _, e2⟩ := List.mem_map.mp this
    cases e2
theorem PInv.step {rs : List Rope} {hs down : List Int} {ends : Slips} {acc : Pulls} (I : PInv rs hs down ends acc) {z : Int × Rope} (hz : z ∈ en 0 rs) : PInv rs hs down ends (pstep hs down acc z) := by
  unfold pstep
  split
  · rename_i hc
    simp only [Bool.and_eq_true, decide_eq_true_eq, Bool.not_eq_true'] at hc
    obtain ⟨h1, h2, h3, h4⟩ := hc
    obtain ⟨hr, hrp⟩ := en_rp hz
    have hnew : z.2.1 ∉ acc.map (·.1) := fun hm => by
      rw [dl_keys hm] at h2
      cases h2
    rw [dp_new hnew]
    have hlow := keys_dl h3
    refine ⟨fun p hp => ?_, ?_, fun l1 c k l2 e => ?_⟩
    · rcases List.mem_append.mp hp with hp | hp
      · exact I.ok p hp
      · simp at hp
        subst hp
        refine ⟨h1, hr.1, hr.2, by rw [hrp], ?_, by rw [hrp]; exact h4⟩
        rw [hrp]
        obtain ⟨y, hy, e⟩ := List.mem_map.mp hlow
        rw [← e]
        exact (I.ok y hy).1
    · rw [List.map_append, List.nodup_append]
      refine ⟨I.nd, by simp, fun a ha c hc e => ?_⟩
      simp at hc
      subst e
      subst hc
      exact hnew ha
    · rcases List.append_eq_append_iff.mp e with ⟨d, e1, e2⟩ | ⟨d, e1, e2⟩
      · cases d with
        | nil =>
          simp at e2
          obtain ⟨⟨_, rfl⟩, _⟩ := e2
          rw [e1, List.append_nil, hrp]
          exact hlow
        | cons y d => simp at e2
      · cases d with
        | nil =>
          simp at e2
          obtain ⟨⟨_, rfl⟩, _⟩ := e2
          rw [List.append_nil] at e1
          rw [← e1, hrp]
          exact hlow
        | cons y d =>
          have e3 : (c, some k) :: l2 = y :: (d ++ [(z.2.1, some z.1)]) := e2
          injection e3 with e4 e5
          subst e4
          exact I.rank l1 c k d e1
  · exact I
theorem PInv.fold {rs : List Rope} {hs down : List Int} {ends : Slips} : ∀ (l : List (Int × Rope)) {acc : Pulls}, (∀ z ∈ l, z ∈ en 0 rs) → PInv rs hs down ends acc → PInv rs hs down ends (l.foldl (pstep hs down) acc)
  | [], _, _, I => I
  | z :: l, acc, h, I => PInv.fold l (acc := pstep hs down acc z) (fun y hy => h y (List.mem_cons_of_mem _ hy)) (I.step (h z (List.mem_cons_self ..)))
theorem PInv.it {rs : List Rope} {hs down : List Int} {ends : Slips} (hd : down.Nodup) : ∀ t, PInv rs hs down ends (pit rs hs down t (pull0 hs down ends))
  | 0 => PInv.start hd
  | t + 1 => PInv.fold (en 0 rs) (fun _ h => h) (PInv.it hd t)
theorem wkn_succ (rs : List Rope) (pu : Pulls) : ∀ (t : Nat) (c : Int), wkn rs pu (t + 1) c = wkn rs pu t (wk rs pu c)
  | 0, c => rfl
  | t + 1, c => by
    show wk rs pu (wkn rs pu (t + 1) c) = wk rs pu (wkn rs pu t (wk rs pu c))
    rw [wkn_succ rs pu t c]
theorem wk_none {rs : List Rope} {pu : Pulls} {c : Int} (h : dl pu c = some none) : wk rs pu c = c := by
  unfold wk
  rw [h]
theorem wkn_none {rs : List Rope} {pu : Pulls} {c : Int} (h : dl pu c = some none) : ∀ t, wkn rs pu t c = c
  | 0 => rfl
  | t + 1 => by
    show wk rs pu (wkn rs pu t c) = c
    rw [wkn_none h t, wk_none h]
theorem PInv.ends {rs : List Rope} {hs down : List Int} {ends : Slips} {acc : Pulls} (I : PInv rs hs down ends acc) : ∀ (m : Nat) (l1 : Pulls) (c : Int) (v : Option Int) (l2 : Pulls), acc = l1 ++ (c, v) :: l2 → l1.length ≤ m → dl acc (wkn rs acc m c) = some none
  | m, l1, c, none, l2, e, hl => by
    have hd : dl acc c = some none := dl_at I.nd (c, none) (by rw [e]; simp)
    rw [wkn_none hd]
    exact hd
  | 0, l1, c, some k, l2, e, hl => by
    have h1 := I.rank l1 c k l2 e
    have : l1 = [] := List.eq_nil_of_length_eq_zero (by omega)
    rw [this] at h1
    cases h1
  | m + 1, l1, c, some k, l2, e, hl => by
    have h1 := I.rank l1 c k l2 e
    have hd : dl acc c = some (some k) := dl_at I.nd (c, some k) (by rw [e]; simp)
    have hw : wk rs acc c = (rp rs k).2.1 := by
      unfold wk
      rw [hd]
    obtain ⟨y, hy, ey⟩ := List.mem_map.mp h1
    obtain ⟨a1, a2, ea⟩ := List.append_of_mem hy
    rw [wkn_succ, hw, ← ey]
    refine PInv.ends I m a1 y.1 y.2 (a2 ++ (c, some k) :: l2) (by rw [e, ea]; simp) ?_
    rw [ea] at hl
    simp at hl
    omega
section
variable {n : Int} {T : List Rope} {H : List Int} {S : Slips}
theorem Fs.inv (h : Fs n T H S) : PInv T (f_hs n T H S) (m_down n H (f_hs n T H S)) (f_ends n T S) (pfin n T H (f_hs n T H S) (f_ends n T S)) := PInv.it (down_nd n H (f_hs n T H S)) _
theorem dl_map {α : Type} (g : Int → α) (k : Int) : ∀ (l : List Int), k ∈ l → dl (l.map fun c => (c, g c)) k = some (g k)
  | [], h => by cases h
  | c :: l, h => by
    rw [List.map_cons, dl_cons]
    by_cases e : c = k
    · subst e
      rw [if_pos rfl]
    · rw [if_neg e]
      rcases List.mem_cons.mp h with rfl | h
      · exact absurd rfl e
      · exact dl_map g k l h
theorem Fs.pulls_dl (h : Fs n T H S) {c : Int} (hc : c ∈ m_down n H (f_hs n T H S)) : ∃ v, dl (f_pulls n T H S) c = some v ∧ dl (pfin n T H (f_hs n T H S) (f_ends n T S)) c = some v ∧ okPull T (f_hs n T H S) (m_down n H (f_hs n T H S)) (f_ends n T S) c v := by
  obtain ⟨v, hv⟩ := Option.isSome_iff_exists.mp (h.found hc)
  refine ⟨v, ?_, hv, (h.inv.ok _ (dl_mem hv)).2⟩
  unfold f_pulls m_pulls
  rw [dl_map _ c _ hc, hv]
  rfl
theorem Fs.pulls_wk (h : Fs n T H S) {c : Int} (hc : c ∈ m_down n H (f_hs n T H S)) : ∀ t, wkn T (f_pulls n T H S) t c = wkn T (pfin n T H (f_hs n T H S) (f_ends n T S)) t c ∧ wkn T (f_pulls n T H S) t c ∈ m_down n H (f_hs n T H S)
  | 0 => ⟨rfl, hc⟩
  | t + 1 => by
    obtain ⟨h1, h2⟩ := h.pulls_wk hc t
    obtain ⟨v, v1, v2, v3⟩ := h.pulls_dl h2
    have e1 : wkn T (f_pulls n T H S) (t + 1) c = wk T (f_pulls n T H S) (wkn T (f_pulls n T H S) t c) := rfl
    have e2 : wkn T (pfin n T H (f_hs n T H S) (f_ends n T S)) (t + 1) c = wk T (pfin n T H (f_hs n T H S) (f_ends n T S)) (wkn T (f_pulls n T H S) t c) := by rw [h1]; rfl
    have hw : wk T (f_pulls n T H S) (wkn T (f_pulls n T H S) t c) = wk T (pfin n T H (f_hs n T H S) (f_ends n T S)) (wkn T (f_pulls n T H S) t c) := by
      unfold wk
      rw [v1, v2]
    refine ⟨by rw [e1, e2, hw], ?_⟩
    rw [e1]
    unfold wk
    rw [v1]
    cases v with
    | none => exact h2
    | some k => exact v3.2.2.2.1
theorem Fs.pulls (h : Fs n T H S) : okPulls n T (f_hs n T H S) (m_down n H (f_hs n T H S)) (f_ends n T S) (f_pulls n T H S) := by
  have n8 : n ≤ 8 := h.ok.n8
  have hdl := down_len (n := n) H (f_hs n T H S)
  refine ⟨?_, down_ord _ _ _, by omega, fun c hc => down_rng hc, fun z hz => ?_, fun c hc => ?_⟩
  · unfold f_pulls m_pulls
    rw [List.map_map]
    exact List.map_id _
  · obtain ⟨c, hc, rfl⟩ := List.mem_map.mp hz
    obtain ⟨v, v1, v2, v3⟩ := h.pulls_dl hc
    show okPull _ _ _ _ c ((dl (pfin n T H (f_hs n T H S) (f_ends n T S)) c).getD none)
    rw [v2]
    exact v3
  · obtain ⟨h1, h2⟩ := h.pulls_wk hc (m_down n H (f_hs n T H S)).length
    obtain ⟨v, v1, v2, _⟩ := h.pulls_dl h2
    rw [v1]
    rw [h1] at v2
    have hmem := dl_mem (Option.isSome_iff_exists.mp (h.found hc)).choose_spec
    obtain ⟨l1, l2, e⟩ := List.append_of_mem hmem
    have hlen : (pfin n T H (f_hs n T H S) (f_ends n T S)).length ≤ (m_down n H (f_hs n T H S)).length := by
      have := nd_sub h.inv.nd (m := m_down n H (f_hs n T H S)) fun x hx => by
        obtain ⟨p, hp, rfl⟩ := List.mem_map.mp hx
        exact (h.inv.ok p hp).1
      rwa [List.length_map] at this
    have hl1 : l1.length ≤ (m_down n H (f_hs n T H S)).length := by
      have := congrArg List.length e
      simp at this
      omega
    have h3 := h.inv.ends _ l1 c _ l2 e hl1
    rw [h3] at v2
    rw [← v2]
/-- all that a fall wants -/
theorem Fs.okF (h : Fs n T H S) : Rb.okF n T H S := ⟨okT_of h.pot h.ok, h.st, h.ks, fun z hz => by
  obtain ⟨y, hy, hp⟩ := List.mem_filterMap.mp hz
  obtain ⟨e, x, _, _, hc, _, _⟩ := h.stop hy hp
  have hr := h.ks.rng y hy
  have n8 : n ≤ 8 := h.ok.n8
  refine okC_wlk hc.wk (fun e0 => ?_) ?_
  · have hw := hc.wk
    simp only at hw
    rw [e0] at hw
    have : (0 : Int) = y.1 := hw
    omega
  · have := hc.len h.ok
    simp only at this
    omega, fun c hc => h.found hc⟩
end
end Rb

set_option Elab.async false
set_option linter.all false
set_option maxRecDepth 100000
set_option maxHeartbeats 4000000
/-! A turn of the law. -/
namespace Rb
open PySem PySem.Spec PyProof.Rows L2
theorem dp_nd {α : Type} {l : List (Int × α)} {k : Int} {x : α} (h : (l.map (·.1)).Nodup) : ((dp l k x).map (·.1)).Nodup := by
  unfold dp
  split
  · rw [List.map_map]
    have : l.map ((fun p : Int × α => p.1) ∘ fun kv => if kv.1 = k then (kv.1, x) else kv) = l.map (·.1) := List.map_congr_left fun p _ => by
      show (if p.1 = k then (p.1, x) else p).1 = p.1
      split <;> rfl
    rw [this]
    exact h
  · rename_i hn
    rw [List.map_append, List.nodup_append]
    refine ⟨h, by simp, fun a ha c hc e => hn ?_⟩
    simp at hc
    subst hc
    subst e
    exact dl_keys ha
theorem ends_nd {rs : List Rope} : ∀ {st : Stops} {sl : Slips}, (sl.map (·.1)).Nodup → ((m_ends rs sl st).map (·.1)).Nodup
  | [], sl, h => h
  | z :: st, sl, h => ends_nd (st := st) (sl := dp sl z.1 (0 - sm rs z.2)) (dp_nd h)
theorem isSt.turn {n : Int} {rs : List Rope} {H : List Int} (h : isSt n rs H) : isSt n (turned rs) (neg H) := ⟨by unfold neg; rw [List.length_map]; exact h.len, fun r hr => by
  obtain ⟨q, hq, rfl⟩ := List.mem_map.mp hr
  have := h.ok q hq
  unfold room at this ⊢
  rw [hi_neg, hi_neg]
  show 0 ≤ q.2.2 - (0 - hi H q.2.1) + (0 - hi H q.1)
  omega⟩
theorem neg_len (l : List Int) : (neg l).length = l.length := by unfold neg; rw [List.length_map]
theorem okSl.neg {n : Int} {S : Slips} (h : okSl n S) : okSl n (negS S) := by
  refine ⟨fun z hz => ?_, ?_, ?_⟩
  · obtain ⟨y, hy, rfl⟩ := List.mem_map.mp hz
    exact h.rng y hy
  · unfold negS
    rw [List.map_map]
    exact h.nd
  · unfold negS
    rw [List.length_map]
    exact h.len
theorem revS_keys (st : Stops) : (revS st).map (·.1) = st.map (·.1) := by
  unfold revS
  rw [List.map_map]
  rfl
section
variable {n : Int} {T : List Rope} {H : List Int} {S : Slips}
theorem Fs.stop' (h : Fs n T H S) {z : Int × List Int} (hz : z ∈ m_stops n T S) : ∃ y ∈ S, z.1 = y.1 ∧ Chn n T 0 z.1 (sm T z.2, z.2) ∧ DT n T 0 z.1 = some (sm T z.2) ∧ y.2 < 0 - sm T z.2 ∧ hi (f_hs n T H S) z.1 = 0 - sm T z.2 ∧ dl S z.1 = some y.2 ∧ z.2 ≠ [] ∧ (z.2.length : Int) ≤ n := by
  obtain ⟨y, hy, hp⟩ := List.mem_filterMap.mp hz
  obtain ⟨e, x, hd, hlt, hc, hh, hS⟩ := h.stop hy hp
  have hx : sm T z.2 = x := hc.sum
  have hr := h.ks.rng y hy
  rw [← e] at hd hc hh hS hr
  subst hx
  refine ⟨y, hy, e, hc, val_some hd, hlt, hh, hS, fun e0 => ?_, hc.len h.ok⟩
  have hw := hc.wk
  simp only at hw
  rw [e0] at hw
  have : (0 : Int) = z.1 := hw
  omega
theorem Fs.is (h : Fs n T H S) : okIs n T H S (f_hs n T H S) (f_pulls n T H S) (m_stops n T S) := by
  have n8 : n ≤ 8 := h.ok.n8
  refine ⟨h.ok, h.st, h.stand, h.ks, fun c h0 h1 => h.low (by omega) h1, fun z hz => ?_, ?_, fun z hz => ?_, h.pulls⟩
  · obtain ⟨y, hy, e, hc, hd, hlt, hh, hS, ne, hl⟩ := h.stop' hz
    have hr := h.ks.rng y hy
    exact ⟨by omega, by omega, okC_wlk hc.wk ne (by show z.2.length ≤ 1000; omega), ld_wlk hc.wk ne, ⟨y.2, hS, hlt⟩, hh⟩
  · have := stops_len (n := n) (rs := T) S
    have := h.ks.len
    omega
  · have hd := dl_at (ends_nd h.ks.nd) z hz
    have h2 := h.ends z.1
    unfold f_ends at h2
    rw [hd] at h2
    exact h.lowE h2.symm
theorem due_keys {Df : DF} : ∀ {S : Slips}, (∀ z ∈ S, Df 0 z.1 = DT n T 0 z.1) → (m_stops n T S).map (·.1) = due Df S
  | [], _ => rfl
  | z :: S, hD => by
    have ih := due_keys (Df := Df) (S := S) fun y hy => hD y (List.mem_cons_of_mem _ hy)
    have hz := hD z (List.mem_cons_self ..)
    have e : m_stops n T (z :: S) = (stop1 n T z).toList ++ m_stops n T S := by
      unfold m_stops
      cases q : stop1 n T z <;> simp [q]
    rw [e, List.map_append, ih]
    unfold due
    rw [List.filter_cons]
    unfold due1 stop1
    rw [hz]
    unfold DT val
    cases q : dl (tab n T z.1) 0 with
    | none => rfl
    | some p =>
      by_cases hlt : z.2 < 0 - p.1
      · have : (!(Option.map (fun x : Int × List Int => x.1) (some p)).isNone && decide (z.2 < 0 - (Option.map (fun x : Int × List Int => x.1) (some p)).getD 0)) = true := by
          show (true && decide (z.2 < 0 - p.1)) = true
          rw [decide_eq_true hlt]
          rfl
        rw [if_pos this]
        simp only [if_pos hlt]
        rfl
      · have : ¬ (!(Option.map (fun x : Int × List Int => x.1) (some p)).isNone && decide (z.2 < 0 - (Option.map (fun x : Int × List Int => x.1) (some p)).getD 0)) = true := by
          show ¬ (true && decide (z.2 < 0 - p.1)) = true
          rw [decide_eq_false hlt]
          decide
        rw [if_neg this]
        simp only [if_neg hlt]
        rfl
theorem lfall_congr {D D' : DF} {hg : List Int} {E E' : Int → Option Int} {c : Int} (hD : ∀ a, 0 ≤ a → a ≤ n → D c a = D' c a) (hE : ∀ a, 0 ≤ a → a ≤ n → E a = E' a) : lfall n D hg E c = lfall n D' hg E' c := by
  unfold lfall
  congr 1
  unfold lsome
  have e1 : (rg 0 (n + 1)).filter (fun a => !(D c a).isNone) = (rg 0 (n + 1)).filter (fun a => !(D' c a).isNone) := List.filter_congr fun a ha => by
    have := mem_rg.mp ha
    rw [hD a this.1 (by omega)]
  rw [e1]
  refine List.map_congr_left fun a ha => ?_
  have := mem_rg.mp (List.mem_filter.mp ha).1
  rw [hD a this.1 (by omega)]
  unfold lcap
  rw [hE a this.1 (by omega)]
theorem lims_congr {D D' : DF} (h : ∀ z ∈ S, D 0 z.1 = D' 0 z.1) : lims D S = lims D' S := by
  unfold lims
  refine List.map_congr_left fun z hz => ?_
  unfold lv
  rw [h z hz]
theorem Fs.law (h : Fs n T H S) {Df : DF} (hD : ∀ i j, 0 ≤ i → i ≤ n → 0 ≤ j → j ≤ n → Df i j = DT n T i j) : okLF n T Df (0 :: H) S (f_hs n T H S) (f_pulls n T H S) (m_stops n T S) := by
  have n1 := h.n1
  have n8 : n ≤ 8 := h.ok.n8
  have hl := h.st.len
  have hS : ∀ z ∈ S, Df 0 z.1 = DT n T 0 z.1 := fun z hz => by
    have := h.ks.rng z hz
    exact hD 0 z.1 (Int.le_refl _) (by omega) (by omega) this.2
  have hE : lims Df S = lims (DT n T) S := lims_congr hS
  have hp := h.pulls
  refine ⟨h.ok, by rw [List.length_cons]; omega, h.hsl, fun r hr => ?_, fun c h0 h1 => ?_, h.ks, h.l8, fun c h0 h1 => ?_, ?_, ?_⟩
  · have := h.stand.ok r hr
    unfold room at this
    omega
  · rw [hD c c h0 h1 h0 h1, h.self h0 h1]
    rfl
  · rw [h.hs h0 h1, hE]
    exact lfall_congr (fun a a0 a1 => (hD c a (by omega) h1 a0 a1).symm) fun _ _ _ => rfl
  · refine ⟨due_keys hS, fun z hz => ?_⟩
    obtain ⟨y, hy, e, hc, hd, hlt, hh, hS', ne, hl'⟩ := h.stop' hz
    have hr := h.ks.rng y hy
    refine ⟨okC_wlk hc.wk ne (by show z.2.length ≤ 1000; omega), ld_wlk hc.wk ne, ?_⟩
    rw [hD 0 z.1 (Int.le_refl _) (by omega) (by omega) (by omega)]
    exact hd
  · refine ⟨hp.keys, fun z hz => ?_, fun c hc => hp.step hc, hp.fin⟩
    have hk := hp.ok z hz
    have hzd : z.1 ∈ m_down n H (f_hs n T H S) := by
      rw [← hp.keys]
      exact List.mem_map.mpr ⟨z, hz, rfl⟩
    rw [hE]
    cases hv : z.2 with
    | none =>
      rw [hv] at hk
      show dl (lims (DT n T) S) z.1 = some (iget (0 :: f_hs n T H S) z.1)
      have h2 : Rb.ends1 (f_hs n T H S) (f_ends n T S) z.1 = true := hk
      unfold Rb.ends1 at h2
      rw [h.ends, Bool.and_eq_true, decide_eq_true_eq] at h2
      obtain ⟨x, hx⟩ := Option.isSome_iff_exists.mp h2.1
      have hx' : dl (lims (DT n T) S) z.1 = some x := hx
      rw [hx']
      have h3 := h2.2
      rw [hx] at h3
      have h4 : hi (f_hs n T H S) z.1 = x := h3
      rw [← hi_iget, h4]
    | some k =>
      rw [hv] at hk
      obtain ⟨k0, k1, k2, k3, k4⟩ := hk
      have hd2 := (mem_down.mp k3).2
      refine ⟨k0, k1, k2, ?_, ?_⟩
      · rw [← hi_iget, ← hi_iget]
        unfold room at k4
        rw [k2] at k4
        omega
      · rw [← hi_iget, ← hi_iget]
        exact hd2
end
/-- the same heights, where the ropes bar the same -/
theorem same_hs {n : Int} {T T' : List Rope} {H : List Int} {S : Slips} (h : Fs n T H S) (h' : Fs n T' H S) (a : Cov T T') (b : Cov T' T) : f_hs n T H S = f_hs n T' H S := by
  have hl := h.st.len
  have hD : ∀ i j, 0 ≤ j → j ≤ n → DT n T i j = DT n T' i j := fun i j h0 h1 => cov_eq h.pot h.ok h'.pot h'.ok a b h0 h1
  have hS : ∀ z ∈ S, DT n T 0 z.1 = DT n T' 0 z.1 := fun z hz => by
    have := h.ks.rng z hz
    exact hD 0 z.1 (by omega) this.2
  unfold f_hs m_fallen
  refine List.map_congr_left fun c hc => ?_
  rw [h.fall, h'.fall]
  unfold XX
  refine lfall_congr (fun a a0 a1 => hD c a a0 a1) fun a _ _ => ?_
  unfold EE
  rw [lims_congr hS]
theorem Cov.len {rs rs' : List Rope} (h : Cov rs rs') : True := trivial
/-- a turn of the law is as it wants -/
theorem turn_ok {n : Int} {rs rs2 : List Rope} {H : List Int} {S : Slips} (ok : okRs n rs) (ok2 : okRs n rs2) (st : isSt n rs H) (st2 : isSt n rs2 H) (a : Cov rs rs2) (b : Cov rs2 rs) (ks : okSl n S) (l8 : S.length ≤ 8) : okTurn n rs rs2 (0 :: H) S := by
  have n1 : 1 ≤ n := ok.n1
  have n8 : n ≤ 8 := ok.n8
  have hl := st.len
  have e := negS_negS S
  have F : Fs n (turned rs) (neg H) S := ⟨ok.turned, st.turn, ks, l8⟩
  have F2 : Fs n (turned rs2) (neg H) S := ⟨ok2.turned, st2.turn, ks, l8⟩
  have hst := F2.stand.turn
  rw [turned_turned] at hst
  have hnd : ((revS (m_stops n (turned rs2) S)).map (·.1)).Nodup := by
    rw [revS_keys]
    exact stops_nd ks.nd
  have hp2 : Pot rs2 (hi H) := fun r hr => by
    have := st2.ok r hr
    unfold room at this
    omega
  have hlaw := F2.law (Df := fun i j => Df0 n rs2 j i) fun i j i0 i1 j0 j1 => by
    show Df0 n rs2 j i = DT n (turned rs2) i j
    rw [Df0_eq hp2 ok2 i0 i1]
    exact turn_eq hp2 ok2 j0 j1 i0 i1
  have hneg : neg (0 :: H) = 0 :: neg H := rfl
  have hsl : (neg (f_hs n (turned rs2) (neg H) S)).length ≤ 8 := by
    have := F2.hsl
    rw [neg_len]
    omega
  have hrl : (revS (m_stops n (turned rs2) S)).length ≤ 8 := by
    have := stops_len (n := n) (rs := turned rs2) S
    unfold revS
    rw [List.length_map]
    omega
  have hnl : (negS S).length ≤ 8 := by
    unfold negS
    rw [List.length_map]
    exact l8
  refine ⟨by rw [List.length_cons]; omega, l8, e, ⟨ok, st, ks.neg, ?_⟩, ⟨ok2, st2, ks.neg, ?_⟩, ?_, ⟨ok2, st2, ks.neg, ?_, ?_, ?_⟩, ⟨ok2, by rw [List.length_cons]; omega, hnl, ?_, ?_, ?_, ?_⟩⟩
  · rw [e]
    exact F.okF
  · rw [e]
    exact F2.okF
  · rw [e]
    exact congrArg neg (same_hs F F2 a.turned b.turned)
  · rw [e]
    exact hst
  · rw [e]
    exact hnd
  · rw [e, neg_neg, revS_revS]
    exact F2.is
  · rw [e]
    exact hsl
  · rw [e]
    exact hnd
  · rw [e]
    exact hrl
  · rw [e, neg_neg, revS_revS, hneg]
    exact hlaw
end Rb

set_option Elab.async false
set_option linter.all false
set_option maxRecDepth 100000
set_option maxHeartbeats 4000000
/-! What is drawn is as it is told. -/
namespace Rb
open PySem PySem.Spec PyProof.Rows L2
theorem hit_head (w : Bool) (sh : List Int) (s : Hgs) (h1 : ∃ l, s.one = 0 :: l) (h2 : ∃ l, s.two = 0 :: l) : ∀ t, (∃ l, (hit w sh s t).one = 0 :: l) ∧ ∃ l, (hit w sh s t).two = 0 :: l
  | 0 => ⟨h1, h2⟩
  | t + 1 => by
    obtain ⟨⟨l1, e1⟩, ⟨l2, e2⟩⟩ := hit_head w sh s h1 h2 t
    unfold hit hstep
    exact ⟨⟨l1 ++ [_], by rw [e1]; rfl⟩, ⟨l2 ++ [_], by rw [e2]; rfl⟩⟩
theorem hgs_ok (q : Pl) {n : Int} (w : Bool) (h0 : 0 ≤ n) : (∃ l, (hgs q n w).one = 0 :: l ∧ (l.length : Int) = n) ∧ ∃ l, (hgs q n w).two = 0 :: l ∧ (l.length : Int) = n := by
  unfold hgs
  obtain ⟨⟨l1, e1⟩, ⟨l2, e2⟩⟩ := hit_head w (shifts q w) ⟨(nb (nb q w).2 false).2, [0], [0]⟩ ⟨[], rfl⟩ ⟨[], rfl⟩ n.toNat
  have hl := hit_len w (shifts q w) ⟨(nb (nb q w).2 false).2, [0], [0]⟩ n.toNat
  rw [e1, e2] at hl
  simp only [List.length_cons, List.length_nil] at hl
  exact ⟨⟨l1, e1, by omega⟩, ⟨l2, e2, by omega⟩⟩
/-- a rope that both heights let -/
def letR (n : Int) (one two : List Int) (r : Rope) : Prop := okR n r ∧ iget one r.1 - iget one r.2.1 ≤ r.2.2 ∧ iget two r.1 - iget two r.2.1 ≤ r.2.2
theorem gap_ge (one two : List Int) (u l : Int) : iget one u - iget one l ≤ gap one two u l ∧ iget two u - iget two l ≤ gap one two u l := ⟨imax_ge _ _ (by simp), imax_ge _ _ (by simp)⟩
theorem rooms_nn {k : Int} (h0 : 0 ≤ k) (h1 : k < 6) : 0 ≤ iget rooms6 k := by
  have h : k = 0 ∨ k = 1 ∨ k = 2 ∨ k = 3 ∨ k = 4 ∨ k = 5 := by omega
  rcases h with rfl | rfl | rfl | rfl | rfl | rfl <;> decide
theorem other {n u d : Int} (h1 : 1 ≤ n) (u0 : 0 ≤ u) (u1 : u < n + 1) (d0 : 0 ≤ d) (d1 : d < n) : 0 ≤ (u + 1 + d) % (n + 1) ∧ (u + 1 + d) % (n + 1) < n + 1 ∧ (u + 1 + d) % (n + 1) ≠ u := by
  refine ⟨Int.emod_nonneg _ (by omega), Int.emod_lt_of_pos _ (by omega), ?_⟩
  by_cases h : u + 1 + d < n + 1
  · rw [Int.emod_eq_of_lt (by omega) h]
    omega
  · have e : (u + 1 + d) % (n + 1) = u + 1 + d - (n + 1) := by
      have h2 := Int.emod_eq_of_lt (a := u + 1 + d - (n + 1)) (b := n + 1) (by omega) (by omega)
      rw [← h2, Int.sub_emod_right]
    rw [e]
    omega
theorem rit_ok {one two : List Int} {n : Int} (h1 : 1 ≤ n) (s : Pl × List Rope) (hs : ∀ r ∈ s.2, letR n one two r) : ∀ t, ∀ r ∈ (rit one two n s t).2, letR n one two r
  | 0 => hs
  | t + 1 => fun r hr => by
    have ih := rit_ok h1 s hs t
    unfold rit rstep at hr
    simp only at hr
    have ha := dr_rng (rit one two n s t).1 (m := n + 1) (by omega)
    have hd := dr_rng (dr (rit one two n s t).1 (n + 1)).2 (m := n) (by omega)
    have he := dr_rng (dr (dr (rit one two n s t).1 (n + 1)).2 n).2 (m := 6) (by decide)
    have ho := other h1 ha.1 ha.2 hd.1 hd.2
    have hr6 := rooms_nn he.1 he.2
    generalize ((dr (rit one two n s t).1 (n + 1)).1 + 1 + (dr (dr (rit one two n s t).1 (n + 1)).2 n).1) % (n + 1) = lo at hr ho
    have g1 := gap_ge one two (dr (rit one two n s t).1 (n + 1)).1 lo
    have g2 := gap_ge one two lo (dr (rit one two n s t).1 (n + 1)).1
    rcases List.mem_append.mp hr with hr | hr
    · exact ih r hr
    · rcases List.mem_cons.mp hr with rfl | hr
      · refine ⟨⟨ha.1, by show (dr (rit one two n s t).1 (n + 1)).1 ≤ n; omega, ho.1, by show lo ≤ n; omega, fun e => ho.2.2 e.symm⟩, ?_, ?_⟩
        · show iget one (dr (rit one two n s t).1 (n + 1)).1 - iget one lo ≤ gap one two (dr (rit one two n s t).1 (n + 1)).1 lo + iget rooms6 _
          omega
        · show iget two (dr (rit one two n s t).1 (n + 1)).1 - iget two lo ≤ gap one two (dr (rit one two n s t).1 (n + 1)).1 lo + iget rooms6 _
          omega
      · split at hr
        · simp at hr
          subst hr
          exact ⟨⟨ho.1, by show lo ≤ n; omega, ha.1, by show (dr (rit one two n s t).1 (n + 1)).1 ≤ n; omega, ho.2.2⟩, g2.1, g2.2⟩
        · cases hr
theorem ropes_ok (q : Pl) {one two : List Int} {n : Int} (h1 : 1 ≤ n) : (∀ r ∈ (ropes q one two n 16).2, letR n one two r) ∧ (ropes q one two n 16).2.length ≤ 30 := by
  have hk := dr_rng q (m := 16) (by decide)
  refine ⟨rit_ok h1 _ (fun r hr => by cases hr) _, ?_⟩
  have := rit_len one two n ((dr q 16).2, []) (dr q 16).1.toNat
  simp only [List.length_nil] at this
  unfold ropes
  omega
theorem fit_ok {one two : List Int} {n : Int} {rs : List Rope} (q : Pl) (hp : 1 ≤ rs.length) (h : ∀ r ∈ rs, letR n one two r) : ∀ t, ∃ ex, (fit rs (q, rs) t).2 = rs ++ ex ∧ ∀ r ∈ ex, ∃ i, (0 ≤ i ∧ i < (rs.length : Int)) ∧ (rp rs i).1 = r.1 ∧ (rp rs i).2.1 = r.2.1 ∧ (rp rs i).2.2 ≤ r.2.2
  | 0 => ⟨[], by simp [fit], fun r hr => by cases hr⟩
  | t + 1 => by
    obtain ⟨ex, e, hx⟩ := fit_ok q hp h t
    have ha := dr_rng (fit rs (q, rs) t).1 (m := rs.length) (by omega)
    have hd := dr_rng (dr (fit rs (q, rs) t).1 rs.length).2 (m := 3) (by decide)
    refine ⟨ex ++ [((rp rs (dr (fit rs (q, rs) t).1 rs.length).1).1, (rp rs (dr (fit rs (q, rs) t).1 rs.length).1).2.1, (rp rs (dr (fit rs (q, rs) t).1 rs.length).1).2.2 + (dr (dr (fit rs (q, rs) t).1 rs.length).2 3).1)], ?_, fun r hr => ?_⟩
    · rw [← List.append_assoc, ← e]
      rfl
    · rcases List.mem_append.mp hr with hr | hr
      · exact hx r hr
      · simp at hr
        subst hr
        exact ⟨_, ha, rfl, rfl, by show (rp rs _).2.2 ≤ (rp rs _).2.2 + _; omega⟩
theorem cov_app {rs ex : List Rope} : Cov (rs ++ ex) rs := fun r hr => by
  obtain ⟨j, hj⟩ := List.mem_iff_getElem?.mp hr
  have hj2 := (List.getElem?_eq_some_iff.mp hj).1
  have e : rp (rs ++ ex) (j : Int) = r := by
    unfold rp
    rw [List.getD_eq_getElem?_getD]
    show ((rs ++ ex)[j]?).getD _ = r
    rw [List.getElem?_append_left hj2, hj]
    rfl
  refine ⟨j, ⟨by omega, by rw [List.length_append]; omega⟩, ?_⟩
  rw [e]
  exact ⟨rfl, rfl, Int.le_refl _⟩
theorem cov_refl (rs : List Rope) : Cov rs rs := by
  have := cov_app (rs := rs) (ex := [])
  rwa [List.append_nil] at this
theorem filled_ok {one two : List Int} {n : Int} {rs : List Rope} (q : Pl) (hp : 1 ≤ rs.length) (hl : rs.length ≤ 60) (h : ∀ r ∈ rs, letR n one two r) : Cov rs (filled q rs).2 ∧ Cov (filled q rs).2 rs ∧ (filled q rs).2.length ≤ 60 ∧ ∀ r ∈ (filled q rs).2, letR n one two r := by
  obtain ⟨ex, e, hx⟩ := fit_ok (one := one) (two := two) (n := n) q hp h (60 - rs.length)
  have hc : Cov rs (filled q rs).2 := fun r hr => by
    unfold filled at hr
    rw [e] at hr
    rcases List.mem_append.mp hr with hr | hr
    · exact cov_refl rs r hr
    · exact hx r hr
  refine ⟨hc, ?_, ?_, fun r hr => ?_⟩
  · unfold filled
    rw [e]
    exact cov_app
  · have := fit_len rs (q, rs) (60 - rs.length)
    simp only at this
    unfold filled
    omega
  · obtain ⟨i, hi, e1, e2, e3⟩ := hc r hr
    obtain ⟨k1, k2, k3⟩ := h _ (rp_mem hi.1 hi.2)
    unfold letR okR at *
    rw [e1, e2] at k1 k2 k3
    exact ⟨k1, by omega, by omega⟩
theorem slips_ok (q : Pl) {hg : List Int} {n : Int} (w : Bool) (h0 : 0 ≤ n) (h8 : n ≤ 8) (hl : (hg.length : Int) = n + 1) : okSl n (slips q hg w).sl ∧ (slips q hg w).sl.length ≤ 8 := by
  have hk := dr_rng q (m := hg.length) (by omega)
  have hs : okSit n 0 ⟨(dr q hg.length).2, rg 1 hg.length, []⟩ := by
    rw [hl]
    exact okSit.start _ h0
  have hi := okSit.it (hg := hg) (w := w) hs (dr q hg.length).1.toNat (by omega)
  have e : slips q hg w = sit hg w ⟨(dr q hg.length).2, rg 1 hg.length, []⟩ (dr q hg.length).1.toNat := rfl
  rw [e]
  have hn := hi.all
  rw [List.nodup_append] at hn
  have hsl := hi.sl
  exact ⟨⟨hi.gone, hn.1, by omega⟩, by omega⟩
theorem law_ok (ns : List Int) : okLaw ns := by
  obtain ⟨n1, n8⟩ := ln_rng ns
  obtain ⟨⟨l1, e1, hl1⟩, ⟨l2, e2, hl2⟩⟩ := hgs_ok (lq2 ns) (n := ln ns) (lw ns) (by omega)
  have e1 : (lh ns).one = 0 :: l1 := e1
  have e2 : (lh ns).two = 0 :: l2 := e2
  obtain ⟨hr, hrl⟩ := ropes_ok (lh ns).q (one := (lh ns).one) (two := (lh ns).two) (n := ln ns) n1
  have hr : ∀ r ∈ lrs ns, letR (ln ns) (lh ns).one (lh ns).two r := hr
  have hrl : (lrs ns).length ≤ 30 := hrl
  have h2 : Cov (lrs ns) (lrs2 ns) ∧ Cov (lrs2 ns) (lrs ns) ∧ (lrs2 ns).length ≤ 60 ∧ ∀ r ∈ lrs2 ns, letR (ln ns) (lh ns).one (lh ns).two r := by
    have triv : Cov (lrs ns) (lrs ns) ∧ Cov (lrs ns) (lrs ns) ∧ (lrs ns).length ≤ 60 ∧ ∀ r ∈ lrs ns, letR (ln ns) (lh ns).one (lh ns).two r := ⟨cov_refl _, cov_refl _, by omega, hr⟩
    cases he : (lrs ns).isEmpty with
    | true =>
      have h1 : lF ns = ((lR ns).1, lrs ns) := if_pos he
      have h2 : lrs2 ns = lrs ns := by unfold lrs2; rw [h1]
      rw [h2]
      exact triv
    | false =>
      have h0 : lF ns = if (dr (lR ns).1 3).1 = 0 then filled (dr (lR ns).1 3).2 (lrs ns) else ((dr (lR ns).1 3).2, lrs ns) := if_neg (by rw [he]; decide)
      by_cases c : (dr (lR ns).1 3).1 = 0
      · have h2 : lrs2 ns = (filled (dr (lR ns).1 3).2 (lrs ns)).2 := by unfold lrs2; rw [h0, if_pos c]
        rw [h2]
        refine filled_ok _ ?_ (by omega) hr
        cases hq : lrs ns with
        | nil =>
          rw [hq] at he
          cases he
        | cons x r => simp
      · have h2 : lrs2 ns = lrs ns := by unfold lrs2; rw [h0, if_neg c]
        rw [h2]
        exact triv
  obtain ⟨c1, c2, hl60, hr2⟩ := h2
  have ok : okRs (ln ns) (lrs ns) := ⟨fun r h => (hr r h).1, by omega, n1, n8⟩
  have ok2 : okRs (ln ns) (lrs2 ns) := ⟨fun r h => (hr2 r h).1, hl60, n1, n8⟩
  have st : ∀ (rs : List Rope) (l : List Int), (l.length : Int) = ln ns → (∀ r ∈ rs, iget (0 :: l) r.1 - iget (0 :: l) r.2.1 ≤ r.2.2) → isSt (ln ns) rs l := fun rs l hl h => ⟨hl, fun r hr => by
    have := h r hr
    unfold room
    rw [hi_iget, hi_iget]
    omega⟩
  refine ⟨by rw [e1, List.length_cons]; omega, by rw [e2, List.length_cons]; omega, ok, ok2, fun i hi => ?_⟩
  have key : ∀ l, lhg ns i = 0 :: l → (l.length : Int) = ln ns → (∀ r, letR (ln ns) (lh ns).one (lh ns).two r → iget (0 :: l) r.1 - iget (0 :: l) r.2.1 ≤ r.2.2) → okTurn (ln ns) (lrs ns) (lrs2 ns) (lhg ns i) (lS ns i) := fun l e hl hle => by
    have hS := slips_ok (lqs ns i) (hg := neg (lhg ns i)) (n := ln ns) (lw ns) (by omega) n8 (by rw [neg_len, e, List.length_cons]; omega)
    have hS : okSl (ln ns) (lS ns i) ∧ (lS ns i).length ≤ 8 := hS
    rw [e]
    exact turn_ok ok ok2 (st _ l hl fun r h => hle r (hr r h)) (st _ l hl fun r h => hle r (hr2 r h)) c1 c2 hS.1 hS.2
  have h01 : i = 0 ∨ i = 1 := by omega
  rcases h01 with rfl | rfl
  · exact key l1 e1 hl1 fun r h => by
      have := h.2.1
      rw [e1] at this
      exact this
  · exact key l2 e2 hl2 fun r h => by
      have := h.2.2
      rw [e2] at this
      exact this
end Rb

set_option Elab.async false
set_option linter.all false
set_option maxRecDepth 100000
set_option maxHeartbeats 0
namespace Rb
open PySem PySem.Spec PyProof.Rows L2
theorem ob_eq (s : PySem.W.SharedT) : ob s = hk.obs s.abs := by
  have e : HandSHeadRun.getT s = s.abs.heap.get? := funext fun a => HandSHeadRun.getT_eq s a
  show obX (HandSHeadRun.getT s) fa fn = He.obsD fa fn (He.frG s.abs.heap.get? (asX s.abs.heap.get?))
  rw [obX_eq, e]
theorem facts {P : Program} {w : World} {K : PySem.W.Frag} {h : Heap} {mg : PySem.Str → Option Value} {f : Addr} (X : K.In h) (G : h.Ns mainGlobals mg) (hf : mg ("law" : PySem.Str) = some (.ref f)) (c : He.SaysD fa fn K) :
    ∃ fd : FuncData, (∀ (s : Shared) (v : Value), BindsTo s fd ⟨[v], []⟩ [("_law_script", v)]) ∧ ∀ base : Heap, K.In base → base.Ns mainGlobals mg → FnOk P w K mg base CX0 11 f fd ["_law_script"] (sp_law K) := by
  have W : Wd K mg := Wd.of X G c
  obtain ⟨fd, F⟩ := c.def_ 56 (d := d_law) rfl
  have e := hf.symm.trans (W.g 56 "law" rfl)
  cases e
  have bd := FunD.bindsA (ps := ["_law_script"]) F fun _ _ _ _ _ _ us hl => match us, hl with | [_], _ => rfl
  exact ⟨fd, fun s v => bd s [v] rfl, fun base _ _ => law_fn W F⟩
theorem says {K : PySem.W.Frag} (H : Hp) (a : Addr) (ns : List Int) (hS : SqL K H a (ns.map V.int)) : sp_law K [.ref a] H (fun v _ => v = .bl true) (fun _ _ _ => False) :=
  ⟨ns, H, law_ok ns, Same.refl _, .cons ⟨a, rfl, hS⟩ .nil, fun x hx => by simp at hx, by simp, fun y v B' H' _ _ _ _ _ _ _ hv => hv⟩
end Rb
open PySem PySem.W PySem.Calls PyProof.Rows
theorem PySem.Challenge.cw_ropedclimbers_k45_whole_rises_holds : PySem.Challenge.rw_ropedclimbers_k45_whole_rises.Holds := by
  w_on; o_law
  refine HandSHeadRun.head_any (r := OpenLaw.row PySem.Challenge.rw_ropedclimbers_k45_whole_rises) (q := view (OpenLaw.row PySem.Challenge.rw_ropedclimbers_k45_whole_rises).prog [80]) (H := Rb.hk) (ob := Rb.ob) (M := 6000) (loose := Rb.names) (d := HandSHeadRun.topDef (OpenLaw.row PySem.Challenge.rw_ropedclimbers_k45_whole_rises).prog 80) (kwd := []) Rb.ob_eq
    (by kernel_rfl) (fun s => by kernel_rfl) Rb.run (by kernel_rfl) (by kernel_rfl) (by kernel_rfl) (by rfl) (by first | assumption | decide +kernel) (by decide +kernel) ⟨rfl, rfl, rfl, rfl, rfl, by decide +kernel⟩ ?hw ?hc
  case hw => w_witness2
  case hc =>
    refine L2.walk_ofE (l := PySem.Challenge.rw_ropedclimbers_k45_whole_rises) (n := 63) (k := 11) (x := "_law_script") (CX := L2.CX0) rfl (by decide) (by kernel_rfl) ⟨rfl, by decide, by decide⟩ ?F (fun _ _ _ _ z => z)
    intro w mg fa h Y G hmg0
    obtain ⟨K, KX, c⟩ := Y
    have hmg : mg ("law" : PySem.Str) = some (.ref fa) := by
      have e : (HandSHeadRun.topDef (OpenLaw.row PySem.Challenge.rw_ropedclimbers_k45_whole_rises).prog 80).name = ("law" : PySem.Str) := by kernel_rfl
      rw [← e]
      exact hmg0
    obtain ⟨fd, hb, hF⟩ := Rb.facts (P := (PySem.Challenge.rw_ropedclimbers_k45_whole_rises).prog) (w := w) KX G hmg c
    exact ⟨K, fd, Rb.sp_law K, KX, hb, fun H a ns hl _ hS => Rb.says H a ns hS, hF⟩
