import PyProof.Rows.All
import Wide.All
import OpenK.AllK
import Wide.FinOn
import HandS.ForMost
import KE.KStateDown
import Lean
import HandS.WordsExc
import HandS.Defaults
import HandS.Lambda
import HandS.EndTab
import HandS.Head0
import HandS.Head1
import HandS.Head2
import HandS.HeadEnd
import HandS.HeadHook1
import HandS.HeadHook2
import HandS.HeadHook3
import HandS.HeadHook4
import HandS.HeadWalk
import HandS.Conv
import HandS.IsInst
import HandS.Zip
import HandS.TupAny
import HandS.Style
import HandS.Deep
import HandS.SortInts
import HandS.SortRule
import HandS.DictComp
import HandS.TupLen
import HandS.Wide
import KE.Datum
import KE.DatumIndex
import HandS.Codes
import HandS.Star
import HandS.WordsDict
import HandS.Strs
import HandS.NamedTupSort
import HandS.DictTup
import KE.LtData
import HandS.Iter
import KE.KDictWalk
import KE.KDictPairs
import KE.KDictDisplayH
import PyProof.Rows.TupDisplay
import PyProof.StrOps2
import HandS.SetFor
import KE.SortData
import KE.SortKeyHeap
import HandS.NestedK
import PySem.Challenge.RW_chancestrokes_k04_whole_own_values
set_option Elab.async false
set_option linter.all false
set_option maxRecDepth 100000
set_option maxHeartbeats 4000000
section
set_option Elab.async false
set_option linter.all false
set_option maxRecDepth 100000
set_option maxHeartbeats 4000000
namespace K4
open PySem PySem.Spec PyProof.Rows L2
/-! ### the text by places -/
def top (i : Nat) : Stmt := PySem.Challenge.pw_chancestrokes_k04_whole_own_values.main.body.getD i (.Pass ⟨0, 0, 0, 0⟩)
abbrev s_is_int : Stmt := top 9
abbrev s_is_in : Stmt := top 10
abbrev s_need_number : Stmt := top 11
abbrev s_need_board : Stmt := top 12
abbrev s_are_strokes : Stmt := top 13
abbrev s_need_strokes : Stmt := top 14
abbrev s_normal_of : Stmt := top 15
abbrev s_is_effect_of : Stmt := top 16
abbrev s_support_of : Stmt := top 17
abbrev s_common : Stmt := top 19
abbrev s_lowered : Stmt := top 20
abbrev s_plus : Stmt := top 21
abbrev s_times : Stmt := top 22
abbrev s_raised : Stmt := top 23
abbrev s_tidied : Stmt := top 27
abbrev s_is_measure_of : Stmt := top 28
abbrev s_need_measure : Stmt := top 29
abbrev s_weight_of : Stmt := top 30
abbrev s_joins_of : Stmt := top 31
abbrev s_within_of : Stmt := top 32
abbrev s_chosen : Stmt := top 35
abbrev s_power_of_two : Stmt := top 36
abbrev s_times_of : Stmt := top 37
abbrev s_need_lines : Stmt := top 38
abbrev s_subsets : Stmt := top 39
abbrev s_values_by : Stmt := top 40
abbrev s_ordered : Stmt := top 41
abbrev s_own_values : Stmt := top 42
abbrev s_trace : Stmt := top 43
abbrev s_least_of : Stmt := top 44
abbrev s_least_values : Stmt := top 45
abbrev s_second : Stmt := top 46
abbrev s_value_of : Stmt := top 47
abbrev s_law_taken : Stmt := top 49
abbrev s_law_pick : Stmt := top 50
abbrev s_law_alike : Stmt := top 51
abbrev s_law_whole : Stmt := top 52
abbrev s_law_stroke : Stmt := top 53
abbrev s_law_strokes : Stmt := top 54
abbrev s_law_starts : Stmt := top 55
abbrev s_law_normal : Stmt := top 56
abbrev s_law_common : Stmt := top 57
abbrev s_law_share : Stmt := top 58
abbrev s_law_plus : Stmt := top 59
abbrev s_law_times : Stmt := top 60
abbrev s_law_throws : Stmt := top 61
abbrev s_law_measure : Stmt := top 62
abbrev s_law_support : Stmt := top 63
abbrev s_law_within : Stmt := top 64
abbrev s_law_board : Stmt := top 65
abbrev s_law_product : Stmt := top 66
abbrev s_law : Stmt := top 67
end K4
end
section
set_option Elab.async false
set_option linter.all false
set_option maxRecDepth 100000
set_option maxHeartbeats 0
namespace K4
open PySem PySem.Spec PyProof.Rows L2
def d_is_int : He.DefD := ⟨("is_int", none), "is_int", "is_int", defArgs s_is_int, defBody s_is_int, defScope s_is_int, [], []⟩
def d_is_in : He.DefD := ⟨("is_in", none), "is_in", "is_in", defArgs s_is_in, defBody s_is_in, defScope s_is_in, [], []⟩
def d_need_number : He.DefD := ⟨("need_number", none), "need_number", "need_number", defArgs s_need_number, defBody s_need_number, defScope s_need_number, [], []⟩
def d_need_board : He.DefD := ⟨("need_board", none), "need_board", "need_board", defArgs s_need_board, defBody s_need_board, defScope s_need_board, [], []⟩
def d_are_strokes : He.DefD := ⟨("are_strokes", none), "are_strokes", "are_strokes", defArgs s_are_strokes, defBody s_are_strokes, defScope s_are_strokes, [], []⟩
def d_need_strokes : He.DefD := ⟨("need_strokes", none), "need_strokes", "need_strokes", defArgs s_need_strokes, defBody s_need_strokes, defScope s_need_strokes, [], []⟩
def d_normal_of : He.DefD := ⟨("normal_of", none), "normal_of", "normal_of", defArgs s_normal_of, defBody s_normal_of, defScope s_normal_of, [], []⟩
def d_is_effect_of : He.DefD := ⟨("is_effect_of", none), "is_effect_of", "is_effect_of", defArgs s_is_effect_of, defBody s_is_effect_of, defScope s_is_effect_of, [], []⟩
def d_support_of : He.DefD := ⟨("support_of", none), "support_of", "support_of", defArgs s_support_of, defBody s_support_of, defScope s_support_of, [], []⟩
def d_common : He.DefD := ⟨("common", none), "common", "common", defArgs s_common, defBody s_common, defScope s_common, [], []⟩
def d_lowered : He.DefD := ⟨("lowered", none), "lowered", "lowered", defArgs s_lowered, defBody s_lowered, defScope s_lowered, [], []⟩
def d_plus : He.DefD := ⟨("plus", none), "plus", "plus", defArgs s_plus, defBody s_plus, defScope s_plus, [], []⟩
def d_times : He.DefD := ⟨("times", none), "times", "times", defArgs s_times, defBody s_times, defScope s_times, [], []⟩
def d_raised : He.DefD := ⟨("raised", none), "raised", "raised", defArgs s_raised, defBody s_raised, defScope s_raised, [], []⟩
def d_tidied : He.DefD := ⟨("tidied", none), "tidied", "tidied", defArgs s_tidied, defBody s_tidied, defScope s_tidied, [], []⟩
def d_is_measure_of : He.DefD := ⟨("is_measure_of", none), "is_measure_of", "is_measure_of", defArgs s_is_measure_of, defBody s_is_measure_of, defScope s_is_measure_of, [], []⟩
def d_need_measure : He.DefD := ⟨("need_measure", none), "need_measure", "need_measure", defArgs s_need_measure, defBody s_need_measure, defScope s_need_measure, [], []⟩
def d_weight_of : He.DefD := ⟨("weight_of", none), "weight_of", "weight_of", defArgs s_weight_of, defBody s_weight_of, defScope s_weight_of, [], []⟩
def d_joins_of : He.DefD := ⟨("joins_of", none), "joins_of", "joins_of", defArgs s_joins_of, defBody s_joins_of, defScope s_joins_of, [], []⟩
def d_within_of : He.DefD := ⟨("within_of", none), "within_of", "within_of", defArgs s_within_of, defBody s_within_of, defScope s_within_of, [], []⟩
def d_chosen : He.DefD := ⟨("chosen", none), "chosen", "chosen", defArgs s_chosen, defBody s_chosen, defScope s_chosen, [], []⟩
def d_power_of_two : He.DefD := ⟨("power_of_two", none), "power_of_two", "power_of_two", defArgs s_power_of_two, defBody s_power_of_two, defScope s_power_of_two, [], []⟩
def d_times_of : He.DefD := ⟨("times_of", none), "times_of", "times_of", defArgs s_times_of, defBody s_times_of, defScope s_times_of, [], []⟩
def d_need_lines : He.DefD := ⟨("need_lines", none), "need_lines", "need_lines", defArgs s_need_lines, defBody s_need_lines, defScope s_need_lines, [], []⟩
def d_subsets : He.DefD := ⟨("subsets", none), "subsets", "subsets", defArgs s_subsets, defBody s_subsets, defScope s_subsets, [], []⟩
def d_values_by : He.DefD := ⟨("values_by", none), "values_by", "values_by", defArgs s_values_by, defBody s_values_by, defScope s_values_by, [], []⟩
def d_ordered : He.DefD := ⟨("ordered", none), "ordered", "ordered", defArgs s_ordered, defBody s_ordered, defScope s_ordered, [], []⟩
def d_own_values : He.DefD := ⟨("own_values", none), "own_values", "own_values", defArgs s_own_values, defBody s_own_values, defScope s_own_values, [], []⟩
def d_trace : He.DefD := ⟨("trace", none), "trace", "trace", defArgs s_trace, defBody s_trace, defScope s_trace, [], []⟩
def d_least_of : He.DefD := ⟨("least_of", none), "least_of", "least_of", defArgs s_least_of, defBody s_least_of, defScope s_least_of, [], []⟩
def d_least_values : He.DefD := ⟨("least_values", none), "least_values", "least_values", defArgs s_least_values, defBody s_least_values, defScope s_least_values, [], []⟩
def d_second : He.DefD := ⟨("second", none), "second", "second", defArgs s_second, defBody s_second, defScope s_second, [], []⟩
def d_value_of : He.DefD := ⟨("value_of", none), "value_of", "value_of", defArgs s_value_of, defBody s_value_of, defScope s_value_of, [], []⟩
def d_law_taken : He.DefD := ⟨("_law_taken", none), "_law_taken", "_law_taken", defArgs s_law_taken, defBody s_law_taken, defScope s_law_taken, [], []⟩
def d_law_pick : He.DefD := ⟨("_law_pick", none), "_law_pick", "_law_pick", defArgs s_law_pick, defBody s_law_pick, defScope s_law_pick, [], []⟩
def d_law_alike : He.DefD := ⟨("_law_alike", none), "_law_alike", "_law_alike", defArgs s_law_alike, defBody s_law_alike, defScope s_law_alike, [], []⟩
def d_law_whole : He.DefD := ⟨("_law_whole", none), "_law_whole", "_law_whole", defArgs s_law_whole, defBody s_law_whole, defScope s_law_whole, [], []⟩
def d_law_stroke : He.DefD := ⟨("_law_stroke", none), "_law_stroke", "_law_stroke", defArgs s_law_stroke, defBody s_law_stroke, defScope s_law_stroke, [], []⟩
def d_law_strokes : He.DefD := ⟨("_law_strokes", none), "_law_strokes", "_law_strokes", defArgs s_law_strokes, defBody s_law_strokes, defScope s_law_strokes, [], []⟩
def d_law_starts : He.DefD := ⟨("_law_starts", none), "_law_starts", "_law_starts", defArgs s_law_starts, defBody s_law_starts, defScope s_law_starts, [], []⟩
def d_law_normal : He.DefD := ⟨("_law_normal", none), "_law_normal", "_law_normal", defArgs s_law_normal, defBody s_law_normal, defScope s_law_normal, [], []⟩
def d_law_common : He.DefD := ⟨("_law_common", none), "_law_common", "_law_common", defArgs s_law_common, defBody s_law_common, defScope s_law_common, [], []⟩
def d_law_share : He.DefD := ⟨("_law_share", none), "_law_share", "_law_share", defArgs s_law_share, defBody s_law_share, defScope s_law_share, [], []⟩
def d_law_plus : He.DefD := ⟨("_law_plus", none), "_law_plus", "_law_plus", defArgs s_law_plus, defBody s_law_plus, defScope s_law_plus, [], []⟩
def d_law_times : He.DefD := ⟨("_law_times", none), "_law_times", "_law_times", defArgs s_law_times, defBody s_law_times, defScope s_law_times, [], []⟩
def d_law_throws : He.DefD := ⟨("_law_throws", none), "_law_throws", "_law_throws", defArgs s_law_throws, defBody s_law_throws, defScope s_law_throws, [], []⟩
def d_law_measure : He.DefD := ⟨("_law_measure", none), "_law_measure", "_law_measure", defArgs s_law_measure, defBody s_law_measure, defScope s_law_measure, [], []⟩
def d_law_support : He.DefD := ⟨("_law_support", none), "_law_support", "_law_support", defArgs s_law_support, defBody s_law_support, defScope s_law_support, [], []⟩
def d_law_within : He.DefD := ⟨("_law_within", none), "_law_within", "_law_within", defArgs s_law_within, defBody s_law_within, defScope s_law_within, [], []⟩
def d_law_board : He.DefD := ⟨("_law_board", none), "_law_board", "_law_board", defArgs s_law_board, defBody s_law_board, defScope s_law_board, [], []⟩
def d_law_product : He.DefD := ⟨("_law_product", none), "_law_product", "_law_product", defArgs s_law_product, defBody s_law_product, defScope s_law_product, [], []⟩
def d_law : He.DefD := ⟨("law", none), "law", "law", defArgs s_law, defBody s_law, defScope s_law, [], []⟩
def fn : List He.DefD := [d_is_int, d_is_in, d_need_number, d_need_board, d_are_strokes, d_need_strokes, d_normal_of, d_is_effect_of, d_support_of, d_common, d_lowered, d_plus, d_times, d_raised, d_tidied, d_is_measure_of, d_need_measure, d_weight_of, d_joins_of, d_within_of, d_chosen, d_power_of_two, d_times_of, d_need_lines, d_subsets, d_values_by, d_ordered, d_own_values, d_trace, d_least_of, d_least_values, d_second, d_value_of, d_law_taken, d_law_pick, d_law_alike, d_law_whole, d_law_stroke, d_law_strokes, d_law_starts, d_law_normal, d_law_common, d_law_share, d_law_plus, d_law_times, d_law_throws, d_law_measure, d_law_support, d_law_within, d_law_board, d_law_product, d_law]
def fa0 : List He.Fa := [.glo "is_int", .glo "is_in", .glo "need_number", .glo "need_board", .glo "are_strokes", .glo "need_strokes", .glo "normal_of", .glo "is_effect_of", .glo "support_of", .glo "common", .glo "lowered", .glo "plus", .glo "times", .glo "raised", .glo "tidied", .glo "is_measure_of", .glo "need_measure", .glo "weight_of", .glo "joins_of", .glo "within_of", .glo "chosen", .glo "power_of_two", .glo "times_of", .glo "need_lines", .glo "subsets", .glo "values_by", .glo "ordered", .glo "own_values", .glo "trace", .glo "least_of"]
def fa1 : List He.Fa := [.glo "least_values", .glo "second", .glo "value_of", .glo "_law_taken", .glo "_law_pick", .glo "_law_alike", .glo "_law_whole", .glo "_law_stroke", .glo "_law_strokes", .glo "_law_starts", .glo "_law_normal", .glo "_law_common", .glo "_law_share", .glo "_law_plus", .glo "_law_times", .glo "_law_throws", .glo "_law_measure", .glo "_law_support", .glo "_law_within", .glo "_law_board", .glo "_law_product", .glo "law", .free "isinstance", .free "len", .free "all", .free "range", .free "sorted", .free "tuple", .free "list", .free "abs"]
def fa2 : List He.Fa := [.free "sum", .free "zip", .free "dict", .free "set", .free "int", .free "str", .free "bool", .int "MOST_SIDE" 12, .int "MOST_LISTED" 500, .int "MOST_POWER" 200, .int "MOST_LINES" 12]
def fa : List He.Fa := fa0 ++ fa1 ++ fa2
def tf : List He.Defn := [("own_values", none), ("trace", none), ("ordered", none)]
def nm0 : List Str := ["ChanceError", "BadStrokes", "BadNumber", "BadMeasure", "TooGreat", "TooMany", "MOST_SIDE", "is_int", "is_in", "need_number", "need_board", "are_strokes", "need_strokes", "normal_of", "is_effect_of", "support_of", "common", "lowered", "plus", "times", "raised", "MOST_LISTED", "MOST_POWER", "tidied", "is_measure_of", "need_measure", "weight_of", "joins_of", "within_of", "MOST_LINES"]
def nm1 : List Str := ["chosen", "power_of_two", "times_of", "need_lines", "subsets", "values_by", "ordered", "own_values", "trace", "least_of", "least_values", "second", "value_of", "_law_taken", "_law_pick", "_law_alike", "_law_whole", "_law_stroke", "_law_strokes", "_law_starts", "_law_normal", "_law_common", "_law_share", "_law_plus", "_law_times", "_law_throws", "_law_measure", "_law_support", "_law_within", "_law_board"]
def nm2 : List Str := ["_law_product"]
def nm : List Str := nm0 ++ nm1 ++ nm2
def exT (K : PySem.W.Frag) : Bool := ((He.cT K ("own_values", none)).2 != (He.cT K ("trace", none)).2) && ((He.cT K ("own_values", none)).2 != (He.cT K ("ordered", none)).2) && ((He.cT K ("trace", none)).2 != (He.cT K ("ordered", none)).2)
abbrev RR : PySem.W.OpenRow := PySem.W.OpenLaw.row PySem.Challenge.rw_chancestrokes_k04_whole_own_values
abbrev hk : PySem.W.Hook := He.hookX 4 fa fn [] tf exT
def ob (s : PySem.W.SharedT) : He.AlX := He.obsX 4 fa fn [] tf exT (HandSHeadRun.getT s)
theorem ob_eq (s : PySem.W.SharedT) : ob s = hk.obs s.abs := He.obsX_eq (HandSHeadRun.getT_eq s)
theorem run (w : World) : HandSHeadRun.RunEq RR (PySem.W.view RR.prog [67]) hk ob 6000 nm w := by
  intro os
  kernel_rfl
end K4
end
section
set_option Elab.async false
set_option linter.all false
set_option maxRecDepth 100000
set_option maxHeartbeats 4000000
namespace K4
open PySem PySem.Spec PyProof.Rows L2 PySem.W
/-! ### the heap grows; tables may grow -/
structure Le (T : List (Addr × Str)) (H H' : Hp) : Prop where
  ext : ∀ b o, H b = some o → (∀ ps, o ≠ .tbl ps) → H' b = some o
  tab : LamX.Tabs T H → LamX.Tabs T H'
variable {T : List (Addr × Str)} {H H' H1 H2 H3 : Hp} {p a : Addr} {o : HO} {xs ys : List V} {v x y : V}
theorem Le.same : Le T H H := ⟨fun _ _ h _ => h, fun h => h⟩
theorem Le.trans (a : Le T H H1) (b : Le T H1 H2) : Le T H H2 :=
  ⟨fun c o h n => b.ext c o (a.ext c o h n) n, fun h => b.tab (a.tab h)⟩
theorem Le.of (h : ∀ b o, H b = some o → H' b = some o) : Le T H H' := ⟨fun b o e _ => h b o e, fun t => t.ext h⟩
theorem Le.new (h : H p = none) : Le T H (upd H p o) := Le.of fun b u e => by
  rw [upd_ne (ne_of_none e h)]
  exact e
theorem Le.lst (e : Le T H H') (h : H a = some (.lst xs)) : H' a = some (.lst xs) := e.ext a _ h fun _ z => by cases z
theorem Le.tup (e : Le T H H') (h : H a = some (.tup xs)) : H' a = some (.tup xs) := e.ext a _ h fun _ z => by cases z
theorem Le.dK {k : List (Key × V)} (e : Le T H H') (h : H a = some (.dK k)) : H' a = some (.dK k) := e.ext a _ h fun _ z => by cases z
theorem Le.dT {k : List (List Key × V)} (e : Le T H H') (h : H a = some (.dT k)) : H' a = some (.dT k) := e.ext a _ h fun _ z => by cases z
/-- what H does not know may change, if it is no table and no code object -/
def Soft : HO → Prop
  | .lst _ => True
  | .dK _ => True
  | .dT _ => True
  | .frz _ u => Soft u
  | _ => False
theorem Soft.tbl {ps : Array Value} (h : Soft (.tbl ps)) : False := h
theorem Soft.tup {xs : List V} (h : Soft (.tup xs)) : False := h
theorem Le.mut {u : HO} (e : Le T H H') (h : H p = none) (hu : H' p = some u) (su : Soft u) : Le T H (upd H' p o) := by
  refine ⟨fun b w hb n => ?_, fun t P hP => ?_⟩
  · rw [upd_ne (ne_of_none hb h)]
    exact e.ext b w hb n
  · obtain ⟨ps, h1, h2, h3⟩ := e.tab t P hP
    have np : P.1 ≠ p := fun z => by
      rw [z, hu] at h1
      cases h1
      exact su
    refine ⟨ps, by rw [upd_ne np]; exact h1, h2, fun pos cv hc => ?_⟩
    obtain ⟨c, e1, e2⟩ := h3 pos cv hc
    have nc : c ≠ p := fun z => by
      rw [z, hu] at e2
      cases e2
      exact su
    exact ⟨c, e1, by rw [upd_ne nc]; exact e2⟩
/-! ### what stands for data: tracked lists and tuples -/
mutual
inductive Dq (H : Hp) : V → PyData → Prop
  | non : Dq H .non .none
  | bl (b : Bool) : Dq H (.bl b) (.bool b)
  | int (i : Int) : Dq H (.int i) (.int i)
  | str (x : Str) : Dq H (.str x) (.str x)
  | lst {a : Addr} {xs : List V} {ds : List PyData} : H a = some (.lst xs) → DqAll H xs ds → Dq H (.ref a) (.list ds)
  | tup {a : Addr} {xs : List V} {ds : List PyData} : H a = some (.tup xs) → DqAll H xs ds → Dq H (.ref a) (.tuple ds)
  /-- a tuple of tuples whose object is known -/
  | tupF {a : Addr} {o : Obj} {xs : List V} {es ds : List PyData} : H a = some (.frz o (.tup xs)) → DqAll H xs (.tuple es :: ds) → Dq H (.ref a) (.tuple (.tuple es :: ds))
inductive DqAll (H : Hp) : List V → List PyData → Prop
  | nil : DqAll H [] []
  | cons {v : V} {vs : List V} {d : PyData} {ds : List PyData} : Dq H v d → DqAll H vs ds → DqAll H (v :: vs) (d :: ds)
end
/-- lists, tuples, things known -/
def Stay : HO → Prop
  | .lst _ => True
  | .tup _ => True
  | .frz _ _ => True
  | _ => False
mutual
theorem Dq.mono (hl : ∀ b u, H b = some u → Stay u → H' b = some u) : ∀ {v : V} {d : PyData}, Dq H v d → Dq H' v d
  | _, _, .non => .non
  | _, _, .bl b => .bl b
  | _, _, .int i => .int i
  | _, _, .str x => .str x
  | _, _, .lst h hs => .lst (hl _ _ h trivial) (DqAll.mono hl hs)
  | _, _, .tup h hs => .tup (hl _ _ h trivial) (DqAll.mono hl hs)
  | _, _, .tupF h hs => .tupF (hl _ _ h trivial) (DqAll.mono hl hs)
theorem DqAll.mono (hl : ∀ b u, H b = some u → Stay u → H' b = some u) : ∀ {vs : List V} {ds : List PyData}, DqAll H vs ds → DqAll H' vs ds
  | _, _, .nil => .nil
  | _, _, .cons h hs => .cons (Dq.mono hl h) (DqAll.mono hl hs)
end
mutual
theorem Dq.dp {K : PySem.W.Frag} : ∀ {v : V} {d : PyData}, Dq H v d → Dp K H v d
  | _, _, .non => .non
  | _, _, .bl b => .bl b
  | _, _, .int i => .int i
  | _, _, .str x => .str x
  | _, _, .lst h hs => .lst (SqL.of h) (DqAll.dp hs)
  | _, _, .tup h hs => .tup (SqT.of h) (DqAll.dp hs)
  | _, _, .tupF h hs => .tup (.inl (.inr ⟨_, h⟩)) (DqAll.dp hs)
theorem DqAll.dp {K : PySem.W.Frag} : ∀ {vs : List V} {ds : List PyData}, DqAll H vs ds → DpAll K H vs ds
  | _, _, .nil => .nil
  | _, _, .cons h hs => .cons (Dq.dp h) (DqAll.dp hs)
end
/-- v stands for x -/
def Rep {α : Type} [DecidableEq α] [Datum α] (H : Hp) (v : V) (x : α) : Prop := Dq H v (Datum.toD x)
def RepAll {α : Type} [DecidableEq α] [Datum α] (H : Hp) (vs : List V) (xs : List α) : Prop := DqAll H vs (xs.map Datum.toD)
section
variable {α β : Type} [DecidableEq α] [Datum α] [DecidableEq β] [Datum β]
theorem Le.stay {u : HO} (e : Le T H H') (h : H a = some u) (s : Stay u) : H' a = some u := e.ext a u h fun ps z => by
  rw [z] at s
  exact s
theorem Le.rdT (e : Le T H H') (h : Rd H a (.tup xs)) : Rd H' a (.tup xs) := by
  rcases h with h | ⟨o, h⟩
  · exact .inl (e.tup h)
  · exact .inr ⟨o, e.stay h trivial⟩
theorem Rep.le {x : α} (h : Rep H v x) (e : Le T H H') : Rep H' v x := Dq.mono (fun _ _ => e.stay) h
theorem RepAll.le {vs : List V} {xs : List α} (h : RepAll H vs xs) (e : Le T H H') : RepAll H' vs xs := DqAll.mono (fun _ _ => e.stay) h
theorem rep_int {i : Int} : Rep H (.int i) i := Dq.int i
theorem rep_bl {b : Bool} : Rep H (.bl b) b := Dq.bl b
theorem rep_str {z : Str} : Rep H (.str z) z := Dq.str z
theorem rep_non : Rep H .non () := Dq.non
theorem of_int {i : Int} (h : Rep H v i) : v = .int i := by cases h; rfl
theorem of_bl {b : Bool} (h : Rep H v b) : v = .bl b := by cases h; rfl
theorem of_str {z : Str} (h : Rep H v z) : v = .str z := by cases h; rfl
theorem of_non (h : Rep H v ()) : v = .non := by cases h; rfl
theorem rep_lst {zs : List α} (h : H a = some (.lst xs)) (hs : RepAll H xs zs) : Rep H (.ref a) zs := Dq.lst h hs
theorem rep_tup {zs : List α} (h : H a = some (.tup xs)) (hs : RepAll H xs zs) : Rep H (.ref a) (Tup.mk zs) := Dq.tup h hs
theorem rep_pair {z : α} {w : β} (h : H a = some (.tup [x, y])) (hz : Rep H x z) (hw : Rep H y w) : Rep H (.ref a) (z, w) := Dq.tup h (.cons hz (.cons hw .nil))
theorem of_lst {zs : List α} (h : Rep H v zs) : ∃ a xs, v = .ref a ∧ H a = some (.lst xs) ∧ RepAll H xs zs := by
  cases h with
  | lst h hs => exact ⟨_, _, rfl, h, hs⟩
theorem of_tup {z : Tup α} (h : Rep H v z) : ∃ a xs, v = .ref a ∧ Rd H a (.tup xs) ∧ RepAll H xs z.items := by
  have h' : Dq H v (.tuple (z.items.map Datum.toD)) := h
  clear h
  generalize e : z.items.map Datum.toD = ds at h'
  cases h' with
  | tup h hs => exact ⟨_, _, rfl, .inl h, by unfold RepAll; rw [e]; exact hs⟩
  | tupF h hs => exact ⟨_, _, rfl, .inr ⟨_, h⟩, by unfold RepAll; rw [e]; exact hs⟩
theorem of_tupI {z : Tup Int} (h : Rep H v z) : ∃ a, v = .ref a ∧ H a = some (.tup (z.items.map V.int)) := by
  have h' : Dq H v (.tuple (z.items.map Datum.toD)) := h
  clear h
  have key : ∀ {ns : List Int} {xs : List V}, DqAll H xs (ns.map Datum.toD) → xs = ns.map V.int := by
    intro ns
    induction ns with
    | nil => intro xs h; cases h; rfl
    | cons n ns ih =>
      intro xs h
      cases h with
      | cons h1 h2 =>
        cases h1
        rw [ih h2] <;> rfl
  generalize e : z.items.map Datum.toD = ds at h'
  cases h' with
  | tup h hs =>
    rw [← e] at hs
    rw [key hs] at h
    exact ⟨_, rfl, h⟩
  | tupF h hs =>
    cases hz : z.items with
    | nil => rw [hz] at e; cases e
    | cons n ns => rw [hz] at e; cases e
theorem of_pair {z : α × β} (h : Rep H v z) : ∃ a x y, v = .ref a ∧ Rd H a (.tup [x, y]) ∧ Rep H x z.1 ∧ Rep H y z.2 := by
  have h' : Dq H v (.tuple [Datum.toD z.1, Datum.toD z.2]) := h
  clear h
  have key : ∀ {xs : List V}, DqAll H xs [Datum.toD z.1, Datum.toD z.2] → ∃ x y, xs = [x, y] ∧ Rep H x z.1 ∧ Rep H y z.2 := by
    intro xs h
    cases h with
    | cons h1 hs =>
      cases hs with
      | cons h2 hs =>
        cases hs
        exact ⟨_, _, rfl, h1, h2⟩
  generalize e : [Datum.toD z.1, Datum.toD z.2] = ds at h'
  cases h' with
  | tup h hs =>
    rw [← e] at hs
    obtain ⟨x, y, rfl, h1, h2⟩ := key hs
    exact ⟨_, _, _, rfl, .inl h, h1, h2⟩
  | tupF h hs =>
    rw [← e] at hs
    obtain ⟨x, y, rfl, h1, h2⟩ := key hs
    exact ⟨_, _, _, rfl, .inr ⟨_, h⟩, h1, h2⟩
theorem of_fr {z : Int × Int} (h : Rep H v z) : ∃ a, v = .ref a ∧ H a = some (.tup [.int z.1, .int z.2]) := by
  have h' : Dq H v (.tuple [.int z.1, .int z.2]) := h
  clear h
  cases h' with
  | tup h hs =>
    cases hs with
    | cons h1 hs =>
      cases hs with
      | cons h2 hs =>
        cases hs
        cases h1
        cases h2
        exact ⟨_, rfl, h⟩
theorem repAll_nil : RepAll H [] ([] : List α) := DqAll.nil
theorem repAll_cons {vs : List V} {z : α} {zs : List α} (h : Rep H v z) (hs : RepAll H vs zs) : RepAll H (v :: vs) (z :: zs) := DqAll.cons h hs
theorem RepAll.uncons {vs : List V} {z : α} {zs : List α} (h : RepAll H vs (z :: zs)) : ∃ v ws, vs = v :: ws ∧ Rep H v z ∧ RepAll H ws zs := by
  cases h with
  | cons h hs => exact ⟨_, _, rfl, h, hs⟩
theorem RepAll.nil_of {vs : List V} (h : RepAll H vs ([] : List α)) : vs = [] := by cases h; rfl
theorem RepAll.length : ∀ {vs : List V} {zs : List α}, RepAll H vs zs → vs.length = zs.length
  | _, [], h => by rw [h.nil_of] <;> rfl
  | _, z :: zs, h => by
    obtain ⟨v, ws, rfl, _, h2⟩ := h.uncons
    rw [List.length_cons, List.length_cons, h2.length]
theorem RepAll.at : ∀ {vs : List V} {zs : List α} {i : Nat} {v : V}, RepAll H vs zs → vs[i]? = some v → ∃ z, zs[i]? = some z ∧ Rep H v z
  | _, [], i, v, h, e => by
    rw [h.nil_of] at e
    simp at e
  | _, z :: zs, i, v, h, e => by
    obtain ⟨w, ws, rfl, h1, h2⟩ := h.uncons
    cases i with
    | zero =>
      cases (Option.some.inj (show some w = some v from e))
      exact ⟨z, rfl, h1⟩
    | succ i => exact h2.at (i := i) (by simpa using e)
theorem RepAll.at' : ∀ {vs : List V} {zs : List α} {i : Nat} {z : α}, RepAll H vs zs → zs[i]? = some z → ∃ v, vs[i]? = some v ∧ Rep H v z
  | _, [], i, z, h, e => by simp at e
  | _, z :: zs, i, y, h, e => by
    obtain ⟨w, ws, rfl, h1, h2⟩ := h.uncons
    cases i with
    | zero =>
      cases (Option.some.inj (show some z = some y from e))
      exact ⟨w, rfl, h1⟩
    | succ i => exact h2.at' (i := i) (by simpa using e)
theorem RepAll.append : ∀ {vs ws : List V} {zs us : List α}, RepAll H vs zs → RepAll H ws us → RepAll H (vs ++ ws) (zs ++ us)
  | _, _, [], _, h, k => by
    rw [h.nil_of]
    exact k
  | _, _, z :: zs, _, h, k => by
    obtain ⟨w, ws, rfl, h1, h2⟩ := h.uncons
    exact repAll_cons h1 (h2.append k)
theorem RepAll.one {z : α} (h : Rep H v z) : RepAll H [v] [z] := repAll_cons h repAll_nil
theorem RepAll.reverse : ∀ {vs : List V} {zs : List α}, RepAll H vs zs → RepAll H vs.reverse zs.reverse
  | _, [], h => by rw [h.nil_of]; exact repAll_nil
  | _, z :: zs, h => by
    obtain ⟨w, ws, rfl, h1, h2⟩ := h.uncons
    rw [List.reverse_cons, List.reverse_cons]
    exact h2.reverse.append (.one h1)
theorem RepAll.take : ∀ {vs : List V} {zs : List α} (n : Nat), RepAll H vs zs → RepAll H (vs.take n) (zs.take n)
  | _, _, 0, _ => repAll_nil
  | _, [], _ + 1, h => by rw [h.nil_of]; exact repAll_nil
  | _, z :: zs, n + 1, h => by
    obtain ⟨w, ws, rfl, h1, h2⟩ := h.uncons
    exact repAll_cons h1 (h2.take n)
theorem RepAll.drop : ∀ {vs : List V} {zs : List α} (n : Nat), RepAll H vs zs → RepAll H (vs.drop n) (zs.drop n)
  | _, _, 0, h => h
  | _, [], _ + 1, h => by rw [h.nil_of]; exact repAll_nil
  | _, z :: zs, n + 1, h => by
    obtain ⟨w, ws, rfl, h1, h2⟩ := h.uncons
    exact h2.drop n
theorem RepAll.set : ∀ {vs : List V} {zs : List α} {z : α} (i : Nat), RepAll H vs zs → Rep H v z → RepAll H (vs.set i v) (zs.set i z)
  | _, [], _, _, h, _ => by rw [h.nil_of]; exact repAll_nil
  | _, y :: zs, z, 0, h, k => by
    obtain ⟨w, ws, rfl, h1, h2⟩ := h.uncons
    exact repAll_cons k h2
  | _, y :: zs, z, i + 1, h, k => by
    obtain ⟨w, ws, rfl, h1, h2⟩ := h.uncons
    exact repAll_cons h1 (h2.set i k)
theorem repAll_ints : ∀ ns : List Int, RepAll H (ns.map V.int) ns
  | [] => repAll_nil
  | n :: ns => repAll_cons rep_int (repAll_ints ns)
theorem RepAll.ints : ∀ {vs : List V} {ns : List Int}, RepAll H vs ns → vs = ns.map V.int
  | _, [], h => h.nil_of
  | _, n :: ns, h => by
    obtain ⟨w, ws, rfl, h1, h2⟩ := h.uncons
    rw [of_int h1, h2.ints] <;> rfl
theorem RepAll.bls : ∀ {vs : List V} {ns : List Bool}, RepAll H vs ns → vs = ns.map V.bl
  | _, [], h => h.nil_of
  | _, n :: ns, h => by
    obtain ⟨w, ws, rfl, h1, h2⟩ := h.uncons
    rw [of_bl h1, h2.bls] <;> rfl
end
end K4
end
section
set_option Elab.async false
set_option linter.all false
set_option maxRecDepth 100000
set_option maxHeartbeats 4000000
namespace K4
open PySem PySem.Spec PyProof.Rows L2 PySem.W
/-! ### operations on data -/
section
variable {X : Cx} {α : Type} [DecidableEq α] [Datum α]
theorem Rep.holds {pins : List (Addr × Obj)} {σ : L2.St} {H : Hp} {s : Shared} {v : V} {u : Value} {x : α} (I : Inv X pins σ H s) (h : Rep H v x) (r : RelV v u) : Holds s.heap u x := Dp.reads I _ v u h.dp r
def rEqQ (α : Type) [DecidableEq α] [Datum α] : R2 := fun x y H Q => ∃ a b : α, Rep H x a ∧ Rep H y b ∧ Q (.bl (decide (a = b))) H
def rNeQ (α : Type) [DecidableEq α] [Datum α] : R2 := fun x y H Q => ∃ a b : α, Rep H x a ∧ Rep H y b ∧ Q (.bl (decide (a ≠ b))) H
theorem op_eqQ (hu : X.A.units + 64 < cLine) (hd : Datum.depth α ≤ 64 := by decide) : OpR X (compareOp .Eq) (rEqQ α) := fun pins s σ H x y v u Q I rx ry h => by
  obtain ⟨a, b, ha, hb, q⟩ := h
  exact eq_datum (ha.holds I rx) (hb.holds I ry) (by omega) ⟨.bl _, H, I, rfl, q⟩
theorem op_neQ (hu : X.A.units + 64 < cLine) (hd : Datum.depth α ≤ 64 := by decide) : OpR X (compareOp .NotEq) (rNeQ α) := fun pins s σ H x y v u Q I rx ry h => by
  obtain ⟨a, b, ha, hb, q⟩ := h
  exact ne_datum (ha.holds I rx) (hb.holds I ry) (by omega) ⟨.bl _, H, I, rfl, q⟩
def rIdxQ (α : Type) [DecidableEq α] [Datum α] : V → List V → Hp → VK → Prop := fun x xs H Q => ∃ (l : List α) (y : V) (z : α), Rep H x l ∧ xs = [y] ∧ Rep H y z ∧ z ∈ l ∧ l.length ≤ 100000 ∧ Q (.int (l.idxOf z : Nat)) H
theorem mt_idxQ (hu : X.A.units + 66 < cLine) (hd : Datum.depth α ≤ 64 := by decide) : MtR X "list.index" (rIdxQ α) := fun pins s σ H x xs v us Q I rx r h => by
  obtain ⟨l, y, z, hl, rfl, hz, hm, hlen, q⟩ := h
  obtain ⟨u, rfl, ry⟩ := vals1 r
  obtain ⟨a, vs, e, hL, hA⟩ := list_of_holds (hl.holds I rx)
  subst e
  exact index_list_datum (by simpa using hL) hA (hz.holds I ry) (by omega) (Nat.le_trans hlen (by decide)) hm ⟨.int _, H, I.tok _, ⟨_, rfl⟩, q⟩
end
/-! ### what is hidden: things that change -/
def hd (S : List Addr) (H : Hp) : Hp := fun b => if b ∈ S then none else H b
section
variable {T : List (Addr × Str)} {S S' : List Addr} {G G' H H' H1 H2 : Hp} {p a : Addr} {o : HO}
theorem hd_out (h : a ∉ S) : hd S H a = H a := if_neg h
theorem hd_in (h : a ∈ S) : hd S H a = none := if_pos h
theorem hd_some (h : hd S H a = some o) : H a = some o ∧ a ∉ S := by
  by_cases m : a ∈ S
  · rw [hd_in m] at h
    cases h
  · rw [hd_out m] at h
    exact ⟨h, m⟩
theorem hd_upd (h : p ∈ S) : hd S (upd H p o) = hd S H := by
  funext b
  by_cases m : b ∈ S
  · rw [hd_in m, hd_in m]
  · rw [hd_out m, hd_out m, upd_ne fun e => m (by rw [e]; exact h)]
theorem hd_nil : hd [] H = H := by
  funext b
  exact hd_out (by simp)
/-- of the things of H those of S are not known -/
structure Sg (T : List (Addr × Str)) (G : Hp) (S : List Addr) (H : Hp) : Prop where
  dom : ∀ b ∈ S, ∃ o, H b = some o ∧ Soft o
  le : Le T G (hd S H)
/-- a thing that is no table stays -/
theorem Le.soft {o : HO} (e : Le T H H') (h : H a = some o) (s : Soft o) : H' a = some o := e.ext a o h fun ps z => by
  rw [z] at s
  exact s
theorem Le.hd (e : Le T H H') (dom : ∀ b ∈ S, ∃ o, H b = some o ∧ Soft o) : Le T (hd S H) (hd S H') := by
  refine ⟨fun b o h n => ?_, fun t p hp => ?_⟩
  · obtain ⟨h1, h2⟩ := hd_some h
    rw [hd_out h2]
    exact e.ext b o h1 n
  · have t' : LamX.Tabs T H := fun q hq => by
      obtain ⟨ps, h1, h2, h3⟩ := t q hq
      exact ⟨ps, (hd_some h1).1, h2, fun pos cv hc => by
        obtain ⟨c, e1, e2⟩ := h3 pos cv hc
        exact ⟨c, e1, (hd_some e2).1⟩⟩
    obtain ⟨ps, h1, h2, h3⟩ := e.tab t' p hp
    refine ⟨ps, ?_, h2, fun pos cv hc => ?_⟩
    · rw [hd_out]
      · exact h1
      · intro m
        obtain ⟨o, ho, so⟩ := dom _ m
        have := e.soft ho so
        rw [h1] at this
        cases this
        exact so
    · obtain ⟨c, e1, e2⟩ := h3 pos cv hc
      refine ⟨c, e1, ?_⟩
      rw [hd_out]
      · exact e2
      · intro m
        obtain ⟨o, ho, so⟩ := dom _ m
        have := e.soft ho so
        rw [e2] at this
        cases this
        exact so
theorem Sg.go (s : Sg T G S H) (e : Le T H H') : Sg T G S H' := ⟨fun b hb => by
  obtain ⟨o, h1, h2⟩ := s.dom b hb
  exact ⟨o, e.soft h1 h2, h2⟩, s.le.trans (e.hd s.dom)⟩
theorem Sg.up (s : Sg T G S H) : Sg T (hd S H) S H := ⟨s.dom, .same⟩
theorem Sg.to (s : Sg T G S H) (e : Le T H H') : Sg T (hd S H) S H' := s.up.go e
theorem Sg.down (s : Sg T G' S H) (e : Le T G G') : Sg T G S H := ⟨s.dom, e.trans s.le⟩
/-- nothing hidden of a new thing -/
theorem Sg.fresh (s : Sg T G S H) (h : H p = none) : p ∉ S := fun m => by
  obtain ⟨o, ho, _⟩ := s.dom p m
  rw [h] at ho
  cases ho
/-- a new thing is hidden -/
theorem Sg.hide (s : Sg T G S H) (h : H p = none) (so : Soft o) : Sg T G (p :: S) (upd H p o) := by
  have np := s.fresh h
  have gp : hd S H p = none := by rw [hd_out np]; exact h
  refine ⟨fun b hb => ?_, s.le.trans (.of fun b u e => ?_)⟩
  · by_cases e : b = p
    · rw [e]
      exact ⟨o, upd_same, so⟩
    · rw [upd_ne e]
      exact s.dom b ((List.mem_cons.mp hb).resolve_left e)
  · have ne : b ≠ p := ne_of_none e gp
    obtain ⟨e1, e2⟩ := hd_some e
    rw [hd_out (by simp [ne, e2]), upd_ne ne]
    exact e1
/-- a hidden thing changes -/
theorem Sg.mut (s : Sg T G S H) (h : p ∈ S) (so : Soft o) : Sg T G S (upd H p o) := by
  refine ⟨fun b hb => ?_, by rw [hd_upd h]; exact s.le⟩
  by_cases e : b = p
  · rw [e]
    exact ⟨o, upd_same, so⟩
  · rw [upd_ne e]
    exact s.dom b hb
/-- no longer hidden -/
theorem Sg.show (s : Sg T G (p :: S) H) : Sg T G S H := ⟨fun b hb => s.dom b (List.mem_cons_of_mem _ hb), s.le.trans (.of fun b u e => by
  obtain ⟨e1, e2⟩ := hd_some e
  rw [hd_out fun m => e2 (List.mem_cons_of_mem _ m)]
  exact e1)⟩
theorem le_show : Le T (hd (p :: S) H) (hd S H) := .of fun b u e => by
  obtain ⟨e1, e2⟩ := hd_some e
  rw [hd_out fun m => e2 (List.mem_cons_of_mem _ m)]
  exact e1
/-- a hidden list that is done -/
theorem Sg.ext {G0 : Hp} (s : Sg T G0 S H) (e : Le T H H1) (h : Le T (hd S H) (hd (p :: S) H1)) (hp : H1 p = some o) (so : Soft o) : Sg T (hd S H) (p :: S) H1 := ⟨fun b hb => by
  rcases List.mem_cons.mp hb with z | z
  · rw [z]
    exact ⟨o, hp, so⟩
  · exact (s.go e).dom b z, h⟩
/-- a tuple is not hidden -/
theorem Sg.tup {G0 : Hp} {xs : List V} (s : Sg T G0 S H) (h : H a = some (.tup xs)) : a ∉ S := fun m => by
  obtain ⟨o, h1, h2⟩ := s.dom a m
  rw [h] at h1
  cases h1
  exact h2
/-- what stands beside the hidden -/
theorem hd_rd {u : HO} (h : Rd (hd S H) a u) : Rd H a u := by
  rcases h with h | ⟨o, h⟩
  · exact .inl (hd_some h).1
  · exact .inr ⟨o, (hd_some h).1⟩
theorem Rep.real {α : Type} [DecidableEq α] [Datum α] {v : V} {x : α} (h : Rep (hd S H) v x) : Rep H v x := Dq.mono (fun b u e _ => (hd_some e).1) h
theorem RepAll.real {α : Type} [DecidableEq α] [Datum α] {vs : List V} {xs : List α} (h : RepAll (hd S H) vs xs) : RepAll H vs xs := DqAll.mono (fun b u e _ => (hd_some e).1) h
theorem hd_new (h : p ∉ S) : hd S (upd H p o) = upd (hd S H) p o := by
  funext b
  by_cases e : b = p
  · rw [e, hd_out h, upd_same, upd_same]
  · rw [upd_ne e]
    unfold hd
    rw [upd_ne e]
end
/-! ### what evaluates to what -/
section
variable (T : List (Addr × Str))
def EvV (te : TE) (σ : L2.St) (G : Hp) (v : V) : Prop := ∀ S H1, Sg T G S H1 → ∀ Q : VK, (∀ H2, Le T H1 H2 → Q v H2) → te σ H1 Q
def EvR {α : Type} [DecidableEq α] [Datum α] (te : TE) (σ : L2.St) (G : Hp) (x : α) : Prop := ∀ S H1, Sg T G S H1 → ∀ Q : VK, (∀ v H2, Le T H1 H2 → Rep (hd S H2) v x → Q v H2) → te σ H1 Q
/-- a list that is new -/
def EvN {α : Type} [DecidableEq α] [Datum α] (te : TE) (σ : L2.St) (G : Hp) (xs : List α) : Prop := ∀ S H1, Sg T G S H1 → ∀ Q : VK, (∀ p vs H2, p ∉ S → Le T H1 H2 → Le T (hd S H1) (hd (p :: S) H2) → H2 p = some (.lst vs) → RepAll (hd (p :: S) H2) vs xs → Q (.ref p) H2) → te σ H1 Q
def EvT (tt : TT) (σ : L2.St) (G : Hp) (b : Bool) : Prop := ∀ S H1, Sg T G S H1 → ∀ Q : Bool → Hp → Prop, (∀ H2, Le T H1 H2 → Q b H2) → tt σ H1 Q
/-- arguments of one type -/
def EvAs {α : Type} [DecidableEq α] [Datum α] (ta : TA) (σ : L2.St) (G : Hp) (xs : List α) : Prop := ∀ S H1, Sg T G S H1 → ∀ Q : List V → Hp → Prop, (∀ vs H2, Le T H1 H2 → RepAll (hd S H2) vs xs → Q vs H2) → ta σ H1 Q
end
section
variable {T : List (Addr × Str)} {σ : L2.St} {S : List Addr} {G G' H H' : Hp} {K : PySem.W.Frag} {α β γ δ ε : Type} [DecidableEq α] [Datum α] [DecidableEq β] [Datum β] [DecidableEq γ] [Datum γ] [DecidableEq δ] [Datum δ] [DecidableEq ε] [Datum ε]
  {te ta tb tc td : TE} {t u : TT} {v : V} {x : α} {y : β} {z : γ} {w : δ} {b c : Bool} {i j : Int} {n : Nat}
theorem EvR.le (h : EvR T te σ G x) (e : Le T G G') : EvR T te σ G' x := fun S H1 s Q q => h S H1 (s.down e) Q q
theorem EvN.le {xs : List α} (h : EvN T te σ G xs) (e : Le T G G') : EvN T te σ G' xs := fun S H1 s Q q => h S H1 (s.down e) Q q
theorem EvT.le (h : EvT T t σ G b) (e : Le T G G') : EvT T t σ G' b := fun S H1 s Q q => h S H1 (s.down e) Q q
theorem EvN.r {xs : List α} (h : EvN T te σ G xs) : EvR T te σ G xs := fun S H1 s Q q => h S H1 s Q fun p vs H2 n e2 _ hp hr =>
  q _ H2 e2 (rep_lst (by rw [hd_out n]; exact hp) (hr.le (le_show (T := T))))
theorem EvV.r (h : EvV T te σ G v) (r : Rep G v x) : EvR T te σ G x := fun S H1 s Q q => h S H1 s Q fun H2 e2 => q v H2 e2 (r.le (s.go e2).le)
theorem ev_is {x' : α} (h : EvR T te σ G x) (e : x = x') : EvR T te σ G x' := e ▸ h
theorem evv_var (h : σ[n]? = some (some v)) : EvV T (tVar n) σ G v := fun _ H1 _ _ q => ⟨v, h, q H1 .same⟩
theorem ev_var (h : σ[n]? = some (some v)) (r : Rep G v x) : EvR T (tVar n) σ G x := (evv_var h).r r
theorem ev_int : EvR T (tC (.int i)) σ G i := fun _ H1 _ _ q => q _ H1 .same rep_int
theorem ev_bl : EvR T (tC (.bl b)) σ G b := fun _ H1 _ _ q => q _ H1 .same rep_bl
theorem ev_str {s : Str} : EvR T (tC (.str s)) σ G s := fun _ H1 _ _ q => q _ H1 .same rep_str
theorem ev_non : EvR T (tC .non) σ G () := fun _ H1 _ _ q => q _ H1 .same rep_non
/-- two values, then what is made of them there -/
theorem ev_op2 {r : R2} (ha : EvR T ta σ G x) (hb : EvR T tb σ G y) (hr : ∀ v u S H1 (Q : VK), Rep (hd S H1) v x → Rep (hd S H1) u y → Sg T G S H1 → (∀ w H2, Le T H1 H2 → Rep (hd S H2) w z → Q w H2) → r v u H1 Q) : EvR T (tOp r ta tb) σ G z := fun S H1 s Q q =>
  ha S H1 s _ fun v H2 e2 r2 => hb S H2 (s.go e2) _ fun u H3 e3 r3 => hr v u S H3 Q (r2.le (e3.hd (s.go e2).dom)) r3 (s.go (e2.trans e3)) fun w H4 e4 r4 => q w H4 ((e2.trans e3).trans e4) r4
theorem ev_opI0 {g : Int → Int → Int} (ha : EvR T ta σ G i) (hb : EvR T tb σ G j) : EvR T (tOp (rI0 fun i j => .int (g i j)) ta tb) σ G (g i j) :=
  ev_op2 ha hb fun v u S H1 Q h1 h2 _ q => ⟨i, j, of_int h1, of_int h2, q _ H1 .same rep_int⟩
theorem ev_opI {C : Int → Int → Prop} {g : Int → Int → Int} (ha : EvR T ta σ G i) (hb : EvR T tb σ G j) (hc : C i j) : EvR T (tOp (rI C fun i j => .int (g i j)) ta tb) σ G (g i j) :=
  ev_op2 ha hb fun v u S H1 Q h1 h2 _ q => ⟨i, j, of_int h1, of_int h2, hc, q _ H1 .same rep_int⟩
theorem ev_cmp {g : Int → Int → Bool} (ha : EvR T ta σ G i) (hb : EvR T tb σ G j) : EvR T (tOp (rI0 fun i j => .bl (g i j)) ta tb) σ G (g i j) :=
  ev_op2 ha hb fun v u S H1 Q h1 h2 _ q => ⟨i, j, of_int h1, of_int h2, q _ H1 .same rep_bl⟩
theorem ev_eq {x y : α} (ha : EvR T ta σ G x) (hb : EvR T tb σ G y) : EvR T (tOp (rEqQ α) ta tb) σ G (decide (x = y)) :=
  ev_op2 ha hb fun v u S H1 Q h1 h2 _ q => ⟨x, y, h1.real, h2.real, q _ H1 .same rep_bl⟩
theorem ev_ne {x y : α} (ha : EvR T ta σ G x) (hb : EvR T tb σ G y) : EvR T (tOp (rNeQ α) ta tb) σ G (decide (x ≠ y)) :=
  ev_op2 ha hb fun v u S H1 Q h1 h2 _ q => ⟨x, y, h1.real, h2.real, q _ H1 .same rep_bl⟩
theorem ev_neg (ha : EvR T ta σ G i) : EvR T (tUn (rU fun i => .int (-i)) ta) σ G (-i) := fun S H1 s Q q =>
  ha S H1 s _ fun v H2 e2 r2 => ⟨i, of_int r2, q _ H2 e2 rep_int⟩
/-! items -/
theorem atI_rep {vs : List V} {xs : List α} {i : Int} {x : α} {H : Hp} (h : RepAll H vs xs) (e : atI xs i = some x) : ∃ v, atI vs i = some v ∧ Rep H v x := by
  unfold atI at e ⊢
  rw [← h.length] at e
  cases q : ixN vs.length i with
  | none =>
    rw [q] at e
    cases e
  | some j =>
    rw [q] at e
    exact h.at' (show xs[j]? = some x from e)
theorem ev_ixL {xs : List α} (ha : EvR T ta σ G xs) (hb : EvR T tb σ G i) (hx : atI xs i = some x) : EvR T (tOp (rIxL K) ta tb) σ G x :=
  ev_op2 ha hb fun v u S H1 Q h1 h2 _ q => by
    obtain ⟨a, vs, rfl, hL, hA⟩ := of_lst h1
    obtain ⟨w, hw, rw'⟩ := atI_rep hA hx
    exact ⟨a, vs, i, w, rfl, of_int h2, .of (hd_some hL).1, hw, q _ H1 .same rw'⟩
theorem ev_ixT {xs : Tup α} (ha : EvR T ta σ G xs) (hb : EvR T tb σ G i) (hx : atI xs.items i = some x) : EvR T (tOp (rIxT K) ta tb) σ G x :=
  ev_op2 ha hb fun v u S H1 Q h1 h2 _ q => by
    obtain ⟨a, vs, rfl, hL, hA⟩ := of_tup h1
    obtain ⟨w, hw, rw'⟩ := atI_rep hA hx
    exact ⟨a, vs, i, w, rfl, of_int h2, .inl (hd_rd hL), hw, q _ H1 .same rw'⟩
theorem ev_fst {p : α × β} (ha : EvR T ta σ G p) : EvR T (tOp (rIxT K) ta (tC (.int 0))) σ G p.1 :=
  ev_op2 ha (ev_int (i := 0)) fun v u S H1 Q h1 h2 _ q => by
    obtain ⟨a, x, y, rfl, hL, hx, hy⟩ := of_pair h1
    exact ⟨a, _, 0, x, rfl, of_int h2, .inl (hd_rd hL), rfl, q _ H1 .same hx⟩
theorem ev_snd {p : α × β} (ha : EvR T ta σ G p) : EvR T (tOp (rIxT K) ta (tC (.int 1))) σ G p.2 :=
  ev_op2 ha (ev_int (i := 1)) fun v u S H1 Q h1 h2 _ q => by
    obtain ⟨a, x, y, rfl, hL, hx, hy⟩ := of_pair h1
    exact ⟨a, _, 1, y, rfl, of_int h2, .inl (hd_rd hL), rfl, q _ H1 .same hy⟩
/-! arguments, displays -/
theorem eas_nil : EvAs T tNil σ G ([] : List α) := fun S H1 _ _ q => q _ H1 .same repAll_nil
theorem eas_cons {tr : TA} {xs : List α} (h : EvR T ta σ G x) (hr : EvAs T tr σ G xs) : EvAs T (tCons ta tr) σ G (x :: xs) := fun S H1 s Q q =>
  h S H1 s _ fun v H2 e2 r2 => hr S H2 (s.go e2) _ fun vs H3 e3 r3 => q _ H3 (e2.trans e3) (repAll_cons (r2.le (e3.hd (s.go e2).dom)) r3)
theorem sz_of {n : Nat} (h : n ≤ 100000) : n ≤ sizeLine := Nat.le_trans h (by decide)
theorem sz_lt {n : Nat} (h : n < 100000) : n < sizeLine := Nat.lt_of_lt_of_le h (by decide)
theorem Sg.newD (s : Sg T G S H) {p : Addr} {o : HO} (h : H p = none) : Le T (hd S H) (hd S (upd H p o)) := (Le.new h).hd s.dom
theorem Sg.at_new (s : Sg T G S H) {p : Addr} {o : HO} (h : H p = none) : hd S (upd H p o) p = some o := by rw [hd_out (s.fresh h), upd_same]
theorem ev_tupN {tr : TA} {xs : List α} (h : EvAs T tr σ G xs) (hl : xs.length ≤ 100000) : EvR T (tTup tr) σ G (Tup.mk xs) := fun S H1 s Q q =>
  h S H1 s _ fun vs H2 e2 r2 => ⟨by rw [r2.length]; exact sz_of hl, fun p hp => q _ _ (e2.trans (.new hp)) (rep_tup ((s.go e2).at_new hp) (r2.le ((s.go e2).newD hp)))⟩
theorem ev_tup2 (h1 : EvR T ta σ G x) (h2 : EvR T tb σ G y) : EvR T (tTup (tCons ta (tCons tb tNil))) σ G (x, y) := fun S H1 s Q q =>
  h1 S H1 s _ fun v H2 e2 r2 => h2 S H2 (s.go e2) _ fun u H3 e3 r3 => ⟨by show (2 : Nat) ≤ sizeLine; decide, fun p hp =>
    q _ _ ((e2.trans e3).trans (.new hp)) (rep_pair ((s.go (e2.trans e3)).at_new hp) ((r2.le (e3.hd (s.go e2).dom)).le ((s.go (e2.trans e3)).newD hp)) (r3.le ((s.go (e2.trans e3)).newD hp)))⟩
theorem le_hide_new (s : Sg T G S H) {p : Addr} {o : HO} (h : H p = none) : Le T (hd S H) (hd (p :: S) (upd H p o)) := .of fun b u e => by
  obtain ⟨e1, e2⟩ := hd_some e
  have ne : b ≠ p := ne_of_none e1 h
  rw [hd_out (by simp [ne, e2]), upd_ne ne]
  exact e1
theorem en_lst {tr : TA} {xs : List α} (h : EvAs T tr σ G xs) (hl : xs.length ≤ 100000) : EvN T (tLst tr) σ G xs := fun S H1 s Q q =>
  h S H1 s _ fun vs H2 e2 r2 => ⟨by rw [r2.length]; exact sz_of hl, fun p hp => q p vs _ ((s.go e2).fresh hp) (e2.trans (.new hp)) ((e2.hd s.dom).trans (le_hide_new (s.go e2) hp)) upd_same (r2.le (le_hide_new (s.go e2) hp))⟩
/-! tests -/
theorem et_test (h : EvR T te σ G b) : EvT T (tTest te) σ G b := fun S H1 s Q q => h S H1 s _ fun v H2 e2 r2 => ⟨b, of_bl r2, q H2 e2⟩
theorem et_B (h : EvR T te σ G b) : EvT T (tB te) σ G b := fun S H1 s Q q => h S H1 s _ fun v H2 e2 r2 => ⟨b, of_bl r2, q H2 e2⟩
theorem et_not (h : EvT T t σ G b) : EvT T (tNot t) σ G (!b) := fun S H1 s Q q => h S H1 s _ fun H2 e2 => q H2 e2
theorem et_and (h1 : EvT T t σ G b) (h2 : b = true → EvT T u σ G c) : EvT T (tAnd t u) σ G (b && c) := fun S H1 s Q q => h1 S H1 s _ fun H2 e2 => by
  cases b with
  | true =>
    show u σ H2 Q
    exact h2 rfl S H2 (s.go e2) Q fun H3 e3 => q H3 (e2.trans e3)
  | false =>
    show Q false H2
    exact q H2 e2
theorem et_or (h1 : EvT T t σ G b) (h2 : b = false → EvT T u σ G c) : EvT T (tOr t u) σ G (b || c) := fun S H1 s Q q => h1 S H1 s _ fun H2 e2 => by
  cases b with
  | true =>
    show Q true H2
    exact q H2 e2
  | false =>
    show u σ H2 Q
    exact h2 rfl S H2 (s.go e2) Q fun H3 e3 => q H3 (e2.trans e3)
theorem et_is {b' : Bool} (h : EvT T t σ G b) (e : b = b') : EvT T t σ G b' := e ▸ h
theorem ev_andV (h1 : EvR T ta σ G b) (h2 : b = true → EvR T tb σ G c) : EvR T (tAndV ta tb) σ G (b && c) := fun S H1 s Q q => h1 S H1 s _ fun v H2 e2 r2 => ⟨b, of_bl r2, by
  cases b with
  | true =>
    show tb σ H2 Q
    exact h2 rfl S H2 (s.go e2) Q fun w H3 e3 => q w H3 (e2.trans e3)
  | false =>
    show Q (.bl false) H2
    exact q _ H2 e2 rep_bl⟩
theorem ev_orV (h1 : EvR T ta σ G b) (h2 : b = false → EvR T tb σ G c) : EvR T (tOrV ta tb) σ G (b || c) := fun S H1 s Q q => h1 S H1 s _ fun v H2 e2 r2 => ⟨b, of_bl r2, by
  cases b with
  | true =>
    show Q (.bl true) H2
    exact q _ H2 e2 rep_bl
  | false =>
    show tb σ H2 Q
    exact h2 rfl S H2 (s.go e2) Q fun w H3 e3 => q w H3 (e2.trans e3)⟩
theorem ev_notV (h : EvR T ta σ G b) : EvR T (tNotV ta) σ G (!b) := fun S H1 s Q q => h S H1 s _ fun v H2 e2 r2 => ⟨b, of_bl r2, q _ H2 e2 rep_bl⟩
theorem ev_if (h : EvT T t σ G b) (h1 : b = true → EvR T ta σ G x) (h2 : b = false → EvR T tb σ G x) : EvR T (tIf t ta tb) σ G x := fun S H1 s Q q => h S H1 s _ fun H2 e2 => by
  cases b with
  | true =>
    show ta σ H2 Q
    exact h1 rfl S H2 (s.go e2) Q fun w H3 e3 => q w H3 (e2.trans e3)
  | false =>
    show tb σ H2 Q
    exact h2 rfl S H2 (s.go e2) Q fun w H3 e3 => q w H3 (e2.trans e3)
theorem ev_chain {g g' : Int → Int → Bool} {k : Int} (ha : EvR T ta σ G i) (hb : EvR T tb σ G j) (hc : EvR T tc σ G k) :
    EvR T (tChain (rI0 fun i j => .bl (g i j)) (rI0 fun i j => .bl (g' i j)) ta tb tc) σ G (g i j && g' j k) := fun S H1 s Q q =>
  ha S H1 s _ fun v H2 e2 r2 => hb S H2 (s.go e2) _ fun u H3 e3 r3 => ⟨i, j, of_int r2, of_int r3, g i j, rfl, by
    cases hg : g i j with
    | true =>
      show tc σ H3 _
      exact hc S H3 (s.go (e2.trans e3)) _ fun w H4 e4 r4 => ⟨j, k, of_int r3, of_int r4, q _ H4 ((e2.trans e3).trans e4) (by rw [hg]; exact rep_bl)⟩
    | false =>
      show Q (.bl false) H3
      exact q _ H3 (e2.trans e3) (by rw [hg]; exact rep_bl)⟩
/-! ### defs that leave the heap but for new things -/
abbrev Dom (S : List Addr) (H : Hp) : Prop := ∀ b ∈ S, ∃ o, H b = some o ∧ Soft o
def Pu1 (T : List (Addr × Str)) (P : α → Prop) (f : α → β) : Sp := fun vs H Q _ => ∃ S v x, Dom S H ∧ vs = [v] ∧ Rep (hd S H) v x ∧ P x ∧ ∀ w H', Le T H H' → Rep (hd S H') w (f x) → Q w H'
def Pu2 (T : List (Addr × Str)) (P : α → β → Prop) (f : α → β → γ) : Sp := fun vs H Q _ => ∃ S v u x y, Dom S H ∧ vs = [v, u] ∧ Rep (hd S H) v x ∧ Rep (hd S H) u y ∧ P x y ∧ ∀ w H', Le T H H' → Rep (hd S H') w (f x y) → Q w H'
def Pu3 (T : List (Addr × Str)) (P : α → β → γ → Prop) (f : α → β → γ → δ) : Sp := fun vs H Q _ => ∃ S v u w x y z, Dom S H ∧ vs = [v, u, w] ∧ Rep (hd S H) v x ∧ Rep (hd S H) u y ∧ Rep (hd S H) w z ∧ P x y z ∧ ∀ r H', Le T H H' → Rep (hd S H') r (f x y z) → Q r H'
def Pu4 (T : List (Addr × Str)) (P : α → β → γ → δ → Prop) (f : α → β → γ → δ → ε) : Sp := fun vs H Q _ => ∃ S v u w t x y z q, Dom S H ∧ vs = [v, u, w, t] ∧ Rep (hd S H) v x ∧ Rep (hd S H) u y ∧ Rep (hd S H) w z ∧ Rep (hd S H) t q ∧ P x y z q ∧ ∀ r H', Le T H H' → Rep (hd S H') r (f x y z q) → Q r H'
theorem ev_call1 {P : α → Prop} {f : α → β} (h1 : EvR T ta σ G x) (p : P x) : EvR T (tCall (Pu1 T P f) [] E0 (tCons ta tNil)) σ G (f x) := fun S H1 s Q q =>
  h1 S H1 s _ fun v H2 e2 r2 => ⟨S, v, x, (s.go e2).dom, rfl, r2, p, fun w H3 e3 r3 => q w H3 (e2.trans e3) r3⟩
theorem ev_call2 {P : α → β → Prop} {f : α → β → γ} (h1 : EvR T ta σ G x) (h2 : EvR T tb σ G y) (p : P x y) : EvR T (tCall (Pu2 T P f) [] E0 (tCons ta (tCons tb tNil))) σ G (f x y) := fun S H1 s Q q =>
  h1 S H1 s _ fun v H2 e2 r2 => h2 S H2 (s.go e2) _ fun u H3 e3 r3 => ⟨S, v, u, x, y, (s.go (e2.trans e3)).dom, rfl, r2.le (e3.hd (s.go e2).dom), r3, p, fun w H4 e4 r4 => q w H4 ((e2.trans e3).trans e4) r4⟩
theorem ev_call3 {P : α → β → γ → Prop} {f : α → β → γ → δ} (h1 : EvR T ta σ G x) (h2 : EvR T tb σ G y) (h3 : EvR T tc σ G z) (p : P x y z) : EvR T (tCall (Pu3 T P f) [] E0 (tCons ta (tCons tb (tCons tc tNil)))) σ G (f x y z) := fun S H1 s Q q =>
  h1 S H1 s _ fun v H2 e2 r2 => h2 S H2 (s.go e2) _ fun u H3 e3 r3 => h3 S H3 (s.go (e2.trans e3)) _ fun t H4 e4 r4 =>
    ⟨S, v, u, t, x, y, z, (s.go ((e2.trans e3).trans e4)).dom, rfl, r2.le ((e3.trans e4).hd (s.go e2).dom), r3.le (e4.hd (s.go (e2.trans e3)).dom), r4, p, fun w H5 e5 r5 => q w H5 (((e2.trans e3).trans e4).trans e5) r5⟩
theorem ev_call4 {P : α → β → γ → δ → Prop} {f : α → β → γ → δ → ε} (h1 : EvR T ta σ G x) (h2 : EvR T tb σ G y) (h3 : EvR T tc σ G z) (h4 : EvR T td σ G w) (p : P x y z w) :
    EvR T (tCall (Pu4 T P f) [] E0 (tCons ta (tCons tb (tCons tc (tCons td tNil))))) σ G (f x y z w) := fun S H1 s Q q =>
  h1 S H1 s _ fun v H2 e2 r2 => h2 S H2 (s.go e2) _ fun u H3 e3 r3 => h3 S H3 (s.go (e2.trans e3)) _ fun t H4 e4 r4 => h4 S H4 (s.go ((e2.trans e3).trans e4)) _ fun t' H5 e5 r5 =>
    ⟨S, v, u, t, t', x, y, z, w, (s.go (((e2.trans e3).trans e4).trans e5)).dom, rfl, r2.le (((e3.trans e4).trans e5).hd (s.go e2).dom), r3.le ((e4.trans e5).hd (s.go (e2.trans e3)).dom), r4.le (e5.hd (s.go ((e2.trans e3).trans e4)).dom), r5, p,
      fun w' H6 e6 r6 => q w' H6 ((((e2.trans e3).trans e4).trans e5).trans e6) r6⟩
/-! ### statements -/
variable {D : Ends} {tu tw tz : TS}
theorem s_ret (s : Sg T G S H) (h : EvR T te σ G x) (k : ∀ v H1, Le T H H1 → Rep (hd S H1) v x → D.rt v H1) : tRet te D σ H := h S H s _ fun v H2 e r => k v H2 e r
theorem s_asg {i : Nat} (s : Sg T G S H) (h : EvR T te σ G x) (k : ∀ v H1, Le T H H1 → Rep (hd S H1) v x → D.nx (σ.set i (some v)) H1) : tAsg te (gName i) D σ H := h S H s _ fun v H2 e r => k v H2 e r
theorem s_asgN {i : Nat} {xs : List α} (s : Sg T G S H) (h : EvN T te σ G xs) (k : ∀ p vs H1, p ∉ S → Le T H H1 → Le T (hd S H) (hd (p :: S) H1) → H1 p = some (.lst vs) → RepAll (hd (p :: S) H1) vs xs → D.nx (σ.set i (some (.ref p))) H1) : tAsg te (gName i) D σ H := h S H s _ fun p vs H2 n e e' hp r => k p vs H2 n e e' hp r
theorem s_if {b : Bool} (s : Sg T G S H) (h : EvT T t σ G b) (h1 : b = true → ∀ H1, Le T H H1 → tu D σ H1) (h2 : b = false → ∀ H1, Le T H H1 → tw D σ H1) : tIfS t tu tw D σ H := h S H s _ fun H2 e => by
  cases b with
  | true => exact h1 rfl H2 e
  | false => exact h2 rfl H2 e
theorem q_asg {i : Nat} (s : Sg T G S H) (h : EvR T te σ G x) (k : ∀ v H1, Le T H H1 → Rep (hd S H1) v x → tz D (σ.set i (some v)) H1) : tSeq (tAsg te (gName i)) tz D σ H := s_asg (D := { D with nx := tz D }) s h k
theorem q_asgN {i : Nat} {xs : List α} (s : Sg T G S H) (h : EvN T te σ G xs) (k : ∀ p vs H1, p ∉ S → Le T H H1 → Le T (hd S H) (hd (p :: S) H1) → H1 p = some (.lst vs) → RepAll (hd (p :: S) H1) vs xs → tz D (σ.set i (some (.ref p))) H1) : tSeq (tAsg te (gName i)) tz D σ H := s_asgN (D := { D with nx := tz D }) s h k
/-- a test that is not met (a raise behind it) -/
theorem q_skip (s : Sg T G S H) (h : EvT T t σ G false) (k : ∀ H1, Le T H H1 → tz D σ H1) : tSeq (tIfS t tu tNext) tz D σ H := h S H s _ fun H2 e => k H2 e
theorem s_skip (s : Sg T G S H) (h : EvT T t σ G false) (k : ∀ H1, Le T H H1 → D.nx σ H1) : tIfS t tu tNext D σ H := h S H s _ fun H2 e => k H2 e
theorem q_if {b : Bool} (s : Sg T G S H) (h : EvT T t σ G b) (h1 : b = true → ∀ H1, Le T H H1 → tu { D with nx := tz D } σ H1) (h2 : b = false → ∀ H1, Le T H H1 → tw { D with nx := tz D } σ H1) : tSeq (tIfS t tu tw) tz D σ H := s_if (D := { D with nx := tz D }) s h h1 h2
theorem q_drop (s : Sg T G S H) (h : EvR T te σ G x) (k : ∀ H1, Le T H H1 → tz D σ H1) : tSeq (tDrop te) tz D σ H := h S H s _ fun v H2 e _ => k H2 e
theorem s_drop (s : Sg T G S H) (h : EvR T te σ G x) (k : ∀ H1, Le T H H1 → D.nx σ H1) : tDrop te D σ H := h S H s _ fun v H2 e _ => k H2 e
/-! ### loops -/
theorem g_pair {i j : Nat} {Q : L2.St → Hp → Prop} {x : α} {y : β} (h : Rep (hd S H) v (x, y)) (k : ∀ vx vy, Rep (hd S H) vx x → Rep (hd S H) vy y → Q ((σ.set i (some vx)).set j (some vy)) H) : gTup K 2 (gCons (gName i) (gCons (gName j) gNil)) v σ H Q := by
  obtain ⟨a, vx, vy, rfl, hL, hx, hy⟩ := of_pair h
  exact ⟨a, _, rfl, .inl (hd_rd hL), rfl, vx, [vy], rfl, vy, [], rfl, rfl, k vx vy hx hy⟩
theorem s_forR1 {j : Nat} {n : Int} {ta : TE} (s : Sg T G S H) (h : EvR T ta σ G n) (hn : n ≤ 100000) (hn0 : -100000 ≤ n) (Pv : Nat → L2.St → Hp → Prop) (h0 : ∀ H1, Le T H H1 → Pv 0 σ H1)
    (hs : ∀ (i : Nat) σ' H', (i : Int) < n → Pv i σ' H' → tu { D with nx := Pv (i + 1), ct := Pv (i + 1), bk := D.nx } (σ'.set j (some (.int (i : Int)))) H') (hd : ∀ σ' H', Pv n.toNat σ' H' → D.nx σ' H') : tFor (iRng1 (tCons ta tNil)) (gName j) tu D σ H :=
  h S H s _ fun v H1 e r => ⟨n, by rw [of_int r], by omega, by omega, for_range (lo := 0) (n := n.toNat) Pv (h0 H1 e) (fun i σ' H' hi p => by
    have e0 : (0 : Int) + (i : Int) = (i : Int) := Int.zero_add _
    show tu { D with nx := Pv (i + 1), ct := Pv (i + 1), bk := D.nx } (σ'.set j (some (.int ((0 : Int) + (i : Int))))) H'
    rw [e0]
    exact hs i σ' H' (by omega) p) hd⟩
theorem s_forR2 {j : Nat} {lo n : Int} {ta tb : TE} (s : Sg T G S H) (ha : EvR T ta σ G lo) (hb : EvR T tb σ G n) (h1 : -100000 ≤ lo) (h2 : lo ≤ 100000) (h3 : -100000 ≤ n) (h4 : n ≤ 100000) (Pv : Nat → L2.St → Hp → Prop) (h0 : ∀ H1, Le T H H1 → Pv 0 σ H1)
    (hs : ∀ (i : Nat) σ' H', lo + (i : Int) < n → Pv i σ' H' → tu { D with nx := Pv (i + 1), ct := Pv (i + 1), bk := D.nx } (σ'.set j (some (.int (lo + (i : Int))))) H') (hd : ∀ σ' H', Pv (n - lo).toNat σ' H' → D.nx σ' H') : tFor (iRng2 (tCons ta (tCons tb tNil))) (gName j) tu D σ H :=
  ha S H s _ fun v H1 e r => hb S H1 (s.go e) _ fun u H2 e2 r2 => ⟨lo, n, by rw [of_int r, of_int r2], ⟨by omega, by omega, by omega, by omega⟩, for_range (lo := lo) (n := (n - lo).toNat) Pv (h0 H2 (e.trans e2)) (fun i σ' H' hi p => hs i σ' H' (by omega) p) hd⟩
/-- over a list that stays: the word Pv leads from the heap in which the list is known -/
theorem s_forL {g : TG} {tl : TE} {xs : List α} (s : Sg T G S H) (h : EvR T tl σ G xs) (Pv : Hp → Nat → L2.St → Hp → Prop) (h0 : ∀ H1, Le T H H1 → Pv H1 0 σ H1) (hl : ∀ H1 i σ' H', Pv H1 i σ' H' → Sg T (hd S H1) S H')
    (hs : ∀ H1 i x v σ' H', Le T H H1 → xs[i]? = some x → Rep (hd S H') v x → Pv H1 i σ' H' → g v σ' H' fun σ2 H2 => tu { D with nx := Pv H1 (i + 1), ct := Pv H1 (i + 1), bk := D.nx } σ2 H2) (hd' : ∀ H1 σ' H', Le T H H1 → Pv H1 xs.length σ' H' → D.nx σ' H') : tFor (iList K tl) g tu D σ H :=
  h S H s _ fun v H1 e r => by
    obtain ⟨a, vs, rfl, hL, hA⟩ := of_lst r
    refine ⟨a, rfl, ⟨vs, .of (hd_some hL).1⟩, for_list (xs := vs) (Pv H1) (h0 H1 e) (fun i σ' H' _ p => .of (hd_some ((hl H1 i σ' H' p).le.lst hL)).1) (fun i x σ' H' hi p => ?_) (fun σ' H' p => hd' H1 σ' H' e (by rw [hA.length] at p; exact p))⟩
    obtain ⟨z, hz, rz⟩ := hA.at hi
    exact hs H1 i z x σ' H' e hz (rz.le (hl H1 i σ' H' p).le) p
theorem s_forT {g : TG} {tl : TE} {xs : Tup α} (s : Sg T G S H) (h : EvR T tl σ G xs) (Pv : Hp → Nat → L2.St → Hp → Prop) (h0 : ∀ H1, Le T H H1 → Pv H1 0 σ H1) (hl : ∀ H1 i σ' H', Pv H1 i σ' H' → Sg T (hd S H1) S H')
    (hs : ∀ H1 i x v σ' H', Le T H H1 → xs.items[i]? = some x → Rep (hd S H') v x → Pv H1 i σ' H' → g v σ' H' fun σ2 H2 => tu { D with nx := Pv H1 (i + 1), ct := Pv H1 (i + 1), bk := D.nx } σ2 H2) (hd' : ∀ H1 σ' H', Le T H H1 → Pv H1 xs.items.length σ' H' → D.nx σ' H') : tFor (iTup K tl) g tu D σ H :=
  h S H s _ fun v H1 e r => by
    obtain ⟨a, vs, rfl, hL, hA⟩ := of_tup r
    refine ⟨a, rfl, ⟨vs, .inl (hd_rd hL)⟩, for_tup (xs := vs) (Pv H1) (h0 H1 e) (fun i σ' H' _ p => .inl (hd_rd ((hl H1 i σ' H' p).le.rdT hL))) (fun i x σ' H' hi p => ?_) (fun σ' H' p => hd' H1 σ' H' e (by rw [hA.length] at p; exact p))⟩
    obtain ⟨z, hz, rz⟩ := hA.at hi
    exact hs H1 i z x σ' H' e hz (rz.le (hl H1 i σ' H' p).le) p
/-! ### what a comprehension walks -/
def Wk (T : List (Addr × Str)) (J : It) (S : List Addr) (H : Hp) (xs : List α) : Prop := ∀ S' H3, Sg T (hd S H) S' H3 → ∀ i, (∀ x, xs[i]? = some x → J.go i H3 ∧ ∀ v H', J.yld i H3 v H' → Le T H3 H' ∧ Rep (hd S' H') v x) ∧ (xs.length ≤ i → J.stop i H3)
def Src (T : List (Addr × Str)) (wi : TI) (σ : L2.St) (G : Hp) (xs : List α) : Prop := ∀ S H1, Sg T G S H1 → ∀ R : It → Hp → Prop, (∀ J H2, Le T H1 H2 → Wk T J S H2 xs → R J H2) → wi σ H1 R
theorem sr_list {tl : TE} {xs : List α} (h : EvR T tl σ G xs) : Src T (iList K tl) σ G xs := fun S H1 s R q => h S H1 s _ fun v H2 e r => by
  obtain ⟨a, vs, rfl, hL, hA⟩ := of_lst r
  refine ⟨a, rfl, ⟨vs, .of (hd_some hL).1⟩, q _ H2 e fun S' H3 s3 i => ⟨fun x hx => ?_, fun hi => ⟨vs, .of (hd_some (s3.le.lst hL)).1, by rw [hA.length]; exact hi⟩⟩⟩
  obtain ⟨w, hw, rw'⟩ := hA.at' hx
  refine ⟨⟨vs, w, .of (hd_some (s3.le.lst hL)).1, hw⟩, fun v H' y => ?_⟩
  obtain ⟨rfl, y⟩ := y
  have e2 := y vs (.of (hd_some (s3.le.lst hL)).1)
  rw [hw] at e2
  cases e2
  exact ⟨.same, rw'.le s3.le⟩
theorem sr_tup {tl : TE} {xs : Tup α} (h : EvR T tl σ G xs) : Src T (iTup K tl) σ G xs.items := fun S H1 s R q => h S H1 s _ fun v H2 e r => by
  obtain ⟨a, vs, rfl, hL, hA⟩ := of_tup r
  refine ⟨a, rfl, ⟨vs, .inl (hd_rd hL)⟩, q _ H2 e fun S' H3 s3 i => ⟨fun x hx => ?_, fun hi => ⟨vs, .inl (hd_rd (s3.le.rdT hL)), by rw [hA.length]; exact hi⟩⟩⟩
  obtain ⟨w, hw, rw'⟩ := hA.at' hx
  refine ⟨⟨vs, w, .inl (hd_rd (s3.le.rdT hL)), hw⟩, fun v H' y => ?_⟩
  obtain ⟨rfl, y⟩ := y
  have e2 := y vs (.inl (hd_rd (s3.le.rdT hL)))
  rw [hw] at e2
  cases e2
  exact ⟨.same, rw'.le s3.le⟩
def rng (lo : Int) (n : Nat) : List Int := (List.range n).map fun (k : Nat) => lo + (k : Int)
theorem rng_at {lo : Int} {n i : Nat} {x : Int} (h : (rng lo n)[i]? = some x) : i < n ∧ x = lo + (i : Int) := by
  unfold rng at h
  rw [List.getElem?_map] at h
  by_cases hi : i < n
  · rw [List.getElem?_range hi] at h
    exact ⟨hi, (Option.some.inj h).symm⟩
  · rw [List.getElem?_eq_none (by rw [List.length_range]; omega)] at h
    cases h
theorem rng_len {lo : Int} {n : Nat} : (rng lo n).length = n := by unfold rng; rw [List.length_map, List.length_range]
theorem sr_r1 {n : Int} (h : EvR T ta σ G n) (h1 : -100000 ≤ n) (h2 : n ≤ 100000) : Src T (iRng1 (tCons ta tNil)) σ G (rng 0 n.toNat) := fun S H1 s R q => h S H1 s _ fun v H2 e r =>
  ⟨n, by rw [of_int r], by omega, by omega, q _ H2 e fun S' H3 s3 i => ⟨fun x hx => by
    obtain ⟨hi, rfl⟩ := rng_at hx
    exact ⟨hi, fun v H' y => by
      obtain ⟨rfl, rfl⟩ := y
      exact ⟨.same, rep_int⟩⟩, fun hi => by
    rw [rng_len] at hi
    exact hi⟩⟩
theorem sr_r2 {lo n : Int} (ha : EvR T ta σ G lo) (hb : EvR T tb σ G n) (h1 : -100000 ≤ lo) (h2 : lo ≤ 100000) (h3 : -100000 ≤ n) (h4 : n ≤ 100000) : Src T (iRng2 (tCons ta (tCons tb tNil))) σ G (rng lo (n - lo).toNat) := fun S H1 s R q =>
  ha S H1 s _ fun v H2 e r => hb S H2 (s.go e) _ fun u H3 e3 r3 => ⟨lo, n, by rw [of_int r, of_int r3], ⟨by omega, by omega, by omega, by omega⟩, q _ H3 (e.trans e3) fun S' H4 s4 i => ⟨fun x hx => by
    obtain ⟨hi, rfl⟩ := rng_at hx
    exact ⟨hi, fun v H' y => by
      obtain ⟨rfl, rfl⟩ := y
      exact ⟨.same, rep_int⟩⟩, fun hi => by
    rw [rng_len] at hi
    exact hi⟩⟩
/-- a target that hands on -/
def Tgm (g : TG) : Prop := ∀ v σ H P P', (∀ σ2 H2, P σ2 H2 → P' σ2 H2) → g v σ H P → g v σ H P'
theorem tgm_name {i : Nat} : Tgm (gName i) := fun _ _ _ _ _ h p => h _ _ p
theorem tgm_pair {i j : Nat} : Tgm (gTup K 2 (gCons (gName i) (gCons (gName j) gNil))) := fun v σ H P P' h p => by
  obtain ⟨a, xs, e1, e2, e3, x, r, e4, y, r', e5, e6, q⟩ := p
  exact ⟨a, xs, e1, e2, e3, x, r, e4, y, r', e5, e6, h _ _ q⟩
theorem en_lc {wi : TI} {g : TG} {tt : TT} {vs : List Nat} {xs : List α} (p : α → Bool) (f : α → β) (hsrc : Src T wi σ G xs) (gm : Tgm g) (hz : xs.length ≤ 90000)
    (he : ∀ x, x ∈ xs → ∀ v S H, Sg T G S H → Rep (hd S H) v x → g v (wipe σ vs) H fun σ2 H2 => H2 = H ∧ wipe σ2 vs = wipe σ vs ∧ EvT T tt σ2 (hd S H) (p x) ∧ (p x = true → EvR T te σ2 (hd S H) (f x))) : EvN T (tLc wi g tt te vs) σ G ((xs.filter p).map f) := fun S H1 s Q q =>
  hsrc S H1 s _ fun J H2 e2 wk D hD => by
    have s2 := s.go e2
    have s0 : Sg T (hd S H2) (D :: S) (upd H2 D (.lst [])) := s2.up.hide hD trivial
    refine ⟨fun i m H' => m = xs.length - i ∧ i ≤ xs.length ∧ Le T H2 H' ∧ Sg T (hd S H2) (D :: S) H' ∧ ∃ ws, H' D = some (.lst ws) ∧ RepAll (hd (D :: S) H') ws (((xs.take i).filter p).map f),
      ⟨xs.length, by omega, Nat.zero_le _, .new hD, s0, [], upd_same, repAll_nil⟩, fun i m H' hw => ?_⟩
    obtain ⟨rfl, hi, e', s', ws, hws, hrs⟩ := hw
    have wk' := wk (D :: S) H' s' i
    by_cases hlt : i < xs.length
    · obtain ⟨x, hx⟩ : ∃ x, xs[i]? = some x := ⟨xs[i], List.getElem?_eq_getElem hlt⟩
      obtain ⟨hgo, hy⟩ := wk'.1 x hx
      refine .inr ⟨hgo, fun H'' => Le T H2 H'' ∧ Sg T (hd S H2) (D :: S) H'' ∧ ∃ ws, H'' D = some (.lst ws) ∧ RepAll (hd (D :: S) H'') ws (((xs.take (i + 1)).filter p).map f), fun H'' hn => ⟨xs.length - (i + 1), by omega, rfl, hlt, hn⟩, fun v H'' y => ?_⟩
      obtain ⟨e3, r3⟩ := hy v H'' y
      have s3 := s'.go e3
      have sG : Sg T G (D :: S) H'' := s3.down s2.le
      have ht : xs.take (i + 1) = xs.take i ++ [x] := by rw [List.take_add_one, hx] <;> rfl
      refine gm _ _ _ _ _ (fun σ2 H4 hq => ?_) (he x (List.mem_of_getElem? hx) v (D :: S) H'' sG r3)
      obtain ⟨rfl, hw2, hT, hE⟩ := hq
      refine ⟨hw2, hT (D :: S) H4 s3.up _ fun H5 e5 => ?_⟩
      have s5 := s3.go e5
      have d5 : H5 D = some (.lst ws) := e5.lst (e3.lst hws)
      cases hp : p x with
      | true =>
        show te σ2 H5 _
        refine hE hp (D :: S) H5 (s3.to e5) _ fun w H6 e6 r6 => ?_
        have s6 := s5.go e6
        refine ⟨ws, e6.lst d5, sz_lt ?_, ?_, s6.mut (List.mem_cons_self ..) trivial, ws ++ [w], upd_same, ?_⟩
        · have h1 := hrs.length
          rw [List.length_map] at h1
          have h2 := List.length_filter_le p (xs.take i)
          rw [List.length_take] at h2
          omega
        · exact Le.mut (((e'.trans e3).trans e5).trans e6) hD (e6.lst d5) trivial
        · rw [hd_upd (List.mem_cons_self ..), ht, List.filter_append, List.map_append]
          have fx : [x].filter p = [x] := by simp [hp]
          rw [fx]
          exact (hrs.le ((((e3.trans e5).trans e6)).hd s'.dom)).append (.one r6)
      | false =>
        show _ ∧ _
        refine ⟨(e'.trans e3).trans e5, s5, ws, d5, ?_⟩
        rw [ht, List.filter_append, List.map_append]
        have fx : [x].filter p = [] := by simp [hp]
        rw [fx]
        have := hrs.le ((e3.trans e5).hd s'.dom)
        simpa using this
    · have hi' : i = xs.length := by omega
      refine .inl ⟨wk'.2 (by omega), ?_⟩
      rw [hi', List.take_length] at hrs
      exact q D ws H' (s2.fresh hD) (e2.trans e') ((e2.hd s.dom).trans s'.le) hws hrs
end
end K4
end
section
set_option Elab.async false
set_option linter.all false
set_option maxRecDepth 100000
set_option maxHeartbeats 4000000
namespace K4
open PySem PySem.Spec PyProof.Rows L2 PySem.W
/-! ### the module's names -/
structure Fx (mg : Str → Option Value) : Prop where
  b_isinstance : mg "isinstance" = none
  b_len : mg "len" = none
  b_all : mg "all" = none
  b_range : mg "range" = none
  b_sorted : mg "sorted" = none
  b_tuple : mg "tuple" = none
  b_list : mg "list" = none
  b_abs : mg "abs" = none
  b_sum : mg "sum" = none
  b_zip : mg "zip" = none
  b_dict : mg "dict" = none
  b_set : mg "set" = none
  b_int : mg "int" = none
  b_str : mg "str" = none
  b_bool : mg "bool" = none
  c_MOST_SIDE : ∃ u, mg "MOST_SIDE" = some u ∧ L2.RelV (.int 12) u
  c_MOST_LISTED : ∃ u, mg "MOST_LISTED" = some u ∧ L2.RelV (.int 500) u
  c_MOST_POWER : ∃ u, mg "MOST_POWER" = some u ∧ L2.RelV (.int 200) u
  c_MOST_LINES : ∃ u, mg "MOST_LINES" = some u ∧ L2.RelV (.int 12) u
/-! ### a def that may be called -/
structure Cal (P : Program) (w : World) (K : PySem.W.Frag) (mg : Str → Option Value) (base : Heap) (k : Nat) (x : Str) (ps : List Str) (sp : Sp) : Prop where
  ex : ∃ (f : Addr) (fd : FuncData), mg x = some (.ref f) ∧ PySem.W.keepIn K (.ref f) = true ∧ Binds K fd ps [] ∧ FnOk P w K mg base CX0 k f fd ps sp
theorem Cal.mono {P : Program} {w : World} {K : PySem.W.Frag} {mg : Str → Option Value} {base : Heap} {j k : Nat} {x : Str} {ps : List Str} {sp : Sp} (c : Cal P w K mg base j x ps sp) (h : j ≤ k) : Cal P w K mg base k x ps sp := by
  obtain ⟨f, fd, h1, h2, h3, h4⟩ := c.ex
  exact ⟨f, fd, h1, h2, h3, h4.mono h⟩
theorem pe_cal {X : Cx} {k : Nat} {x : Str} {ps : List Str} {sp : Sp} {e : Expr} {es : List Expr} {t : TA} {p pos : Pos} (C : Cal X.prog X.w X.K X.mg X.base k x ps sp) (hr : Room k X.A) (hg : Gl X x) (ha : PA X (e :: es) t)
    (hd : (x == ("__debug__" : Str)) = false := by decide) (he : starEach (e :: es) X.env = (false, eval e X.env) :: starEach es X.env := by rfl) (hpl : (backTo pos (starEach es X.env)).any (·.1) = false := by rfl) :
    PE X (.Call (.Name x p) (e :: es) [] pos) (tCall sp [] E0 t) := by
  obtain ⟨f, fd, h1, h2, h3, h4⟩ := C.ex
  exact pe_call h4 hr hg h1 h2 h3 .nil pass0 ha hd he hpl
abbrev FnP (K : PySem.W.Frag) (x : Str) (st : Stmt) (f : Addr) (fd : FuncData) : Prop := FunD K x x (defArgs st) (defBody st) (defScope st) [] [] f fd
/-- the def x stands as st -/
def At (K : PySem.W.Frag) (mg : Str → Option Value) (x : Str) (st : Stmt) : Prop := ∃ (f : Addr) (fd : FuncData), mg x = some (.ref f) ∧ FnP K x st f fd
theorem mk_cal {P : Program} {w : World} {K : PySem.W.Frag} {mg : Str → Option Value} {base : Heap} {k : Nat} {x : Str} {st : Stmt} {N ps : List Str} {sp : Sp} {t : TS} (D : At K mg x st) (S : FnScope N ps (defScope st))
    (hb : ∀ (kV doc pm : Value) (an : Option Addr) (cdv ct : Value) (us : List Value), us.length = ps.length → bindArgs (PySem.W.fnOf x x (defArgs st) (defBody st) (defScope st) .none kV doc pm an cdv ct) ⟨us, []⟩ = pure (ps.zip us))
    (len : ∀ vs H Q E, sp vs H Q E → vs.length = ps.length)
    (der : ∀ (f : Addr) (cdv : Value) (A : Around) (outer : List Env) (s : Shared) (H : Hp) (E : XK), Room k (A.deeper (envOfC x (defScope st) s.heap.objs.size f cdv)) → PSs (cxOf CX0 P w K mg base N x (defScope st) f cdv A outer s H E).nox (defBody st) t)
    (pure : ∀ vs H Q E, sp vs H Q E → t { nx := fun _ H' => Q .non H', rt := Q } (start N vs) H) : Cal P w K mg base (k + 1) x ps sp := by
  obtain ⟨f, fd, hf, F⟩ := D
  exact ⟨f, fd, hf, F.kp, F.bindsN hb, F.ok S len fun cdv A outer s H vs Q E hr h => ⟨t, PSs.nox (der f cdv A outer s H E hr), pure vs H Q E h⟩⟩
theorem Pu1.len {α β : Type} [DecidableEq α] [Datum α] [DecidableEq β] [Datum β] {T : List (Addr × Str)} {P : α → Prop} {f : α → β} {ps : List Str} (h : ps.length = 1) : ∀ vs H Q E, Pu1 T P f vs H Q E → vs.length = ps.length := fun vs H Q E q => by
  obtain ⟨S, v, x, _, rfl, _⟩ := q
  exact h.symm
section
variable {α β γ δ ε : Type} [DecidableEq α] [Datum α] [DecidableEq β] [Datum β] [DecidableEq γ] [Datum γ] [DecidableEq δ] [Datum δ] [DecidableEq ε] [Datum ε] {T : List (Addr × Str)} {ps : List Str}
theorem Pu2.len {P : α → β → Prop} {f : α → β → γ} (h : ps.length = 2) : ∀ vs H Q E, Pu2 T P f vs H Q E → vs.length = ps.length := fun vs H Q E q => by
  obtain ⟨S, v, u, x, y, _, rfl, _⟩ := q
  exact h.symm
theorem Pu3.len {P : α → β → γ → Prop} {f : α → β → γ → δ} (h : ps.length = 3) : ∀ vs H Q E, Pu3 T P f vs H Q E → vs.length = ps.length := fun vs H Q E q => by
  obtain ⟨S, v, u, w, x, y, z, _, rfl, _⟩ := q
  exact h.symm
theorem Pu4.len {P : α → β → γ → δ → Prop} {f : α → β → γ → δ → ε} (h : ps.length = 4) : ∀ vs H Q E, Pu4 T P f vs H Q E → vs.length = ps.length := fun vs H Q E q => by
  obtain ⟨S, v, u, w, t, x, y, z, r, _, rfl, _⟩ := q
  exact h.symm
end
theorem hu1 {k : Nat} {A : Around} (r : Room k A) : A.units + 1 < cLine := by have := r.un; omega
theorem hu66 {k : Nat} {A : Around} (r : Room k A) : A.units + 66 < cLine := by have := r.un; omega
/-! ### further operations -/
def rAbs : List V → Hp → VK → Prop := fun xs H Q => ∃ i, xs = [.int i] ∧ Q (.int (if i < 0 then -i else i)) H
def rInt1 : List V → Hp → VK → Prop := fun xs H Q => (∃ i, xs = [.int i] ∧ Q (.int i) H) ∨ ∃ k, xs = [.bl k] ∧ Q (.int (if k then 1 else 0)) H
def rLenS (K : PySem.W.Frag) : List V → Hp → VK → Prop := fun xs H Q => ∃ p ys, xs = [.ref p] ∧ (SqL K H p ys ∨ SqT K H p ys) ∧ Q (.int ys.length) H
def rListS (K : PySem.W.Frag) : List V → Hp → VK → Prop := fun xs H Q => ∃ p ys, xs = [.ref p] ∧ (SqL K H p ys ∨ SqT K H p ys) ∧ ∀ l, H l = none → Q (.ref l) (upd H l (.lst ys))
def rLenD : List V → Hp → VK → Prop := fun xs H Q => ∃ a kvs, xs = [V.ref a] ∧ H a = some (.dK kvs) ∧ Q (.int kvs.length) H
def rSortDI : List V → Hp → VK → Prop := fun xs H Q => ∃ (a : Addr) (kvs : List (Key × V)) (ks : List Int), xs = [.ref a] ∧ Rd H a (.dK kvs) ∧ kvs.map (·.1) = ks.map Sum.inl ∧ ks.length < 64 ∧
    ∀ (ys : List Int) (p : Addr), ys.Perm ks → ys.Pairwise (· ≤ ·) → H p = none → Q (.ref p) (upd H p (.lst (ys.map V.int)))
def rListDT : List V → Hp → VK → Prop := fun xs H Q => ∃ d kvs, xs = [V.ref d] ∧ Rd H d (.dT kvs) ∧ ∀ p bs, H p = none → IsKeys H kvs bs → Q (.ref p) (upd H p (.lst (bs.map V.ref)))
/-- text + text, text * int -/
def rAddS : R2 := fun x y H Q => ∃ i j, x = .str i ∧ y = .str j ∧ i.length + j.length ≤ sizeLine ∧ Q (.str (i ++ j)) H
def rMulS : R2 := fun x y H Q => ∃ z i, x = .str z ∧ y = .int i ∧ 0 < i ∧ i ≤ 1000 ∧ z.length = 1 ∧ Q (.str ⟨(List.replicate i.toNat z.cps.toList).flatten.toArray⟩) H
def rGetL : V → V → Hp → VK → Prop := fun o i H Q => ∃ p xs k v, o = .ref p ∧ i = .int k ∧ H p = some (.lst xs) ∧ atI xs k = some v ∧ Q v H
section
variable {X : Cx}
theorem op_addS : OpR X (binaryOp .Add) rAddS := op_add_str
theorem get_list : PGet X rGetL := by
  intro pins s σ H o i ov iv Q I ro ri h
  obtain ⟨p, xs, k, v, rfl, rfl, hp, hv, q⟩ := h
  cases ro
  obtain ⟨t, rfl⟩ := ri
  obtain ⟨its, r, pl, hz⟩ := I.list (.of hp)
  obtain ⟨j, h1, h2, h3, h4, h5⟩ := atI_get hv
  obtain ⟨w, ew, rw'⟩ := r.get h2
  have hl := r.length
  have hn := line63
  have fin : EP X pins σ Q w s := ⟨v, H, I, rw', q⟩
  by_cases h0 : 0 ≤ k
  · have hj : k.toNat = j := by
      rw [seqIndex_of h0 h5] at h1
      exact Option.some.inj h1
    exact wpAny_getItem_list pl.isList h0 (by omega) (by rw [hj]; simpa using ew) fin
  · have hj : (k + (its.toArray.size : Int)).toNat = j := by
      rw [seqIndex_neg (by omega) h4] at h1
      rw [List.size_toArray, ← hl]
      exact Option.some.inj h1
    exact wpAny_getItem_list_neg pl.isList (by omega) (by rw [List.size_toArray] <;> omega) (by omega) (by rw [hj]; simpa using ew) fin
end
end K4
end
section
set_option linter.all false
set_option autoImplicit false
/-! the mirror: what the defs compute, as plain functions -/
namespace K4
open PySem PySem.W
abbrev Meas := Tup (Tup Int × Int)
def mGcd (a b : Int) : Int := (Int.gcd a b : Int)
/-- the fraction a / b in lowest terms -/
def mFr (a b : Int) : Int × Int := (a / mGcd a b, b / mGcd a b)
def mPlus (p q : Int × Int) : Int × Int := mFr (p.1 * q.2 + q.1 * p.2) (p.2 * q.2)
def mTimes (p q : Int × Int) : Int × Int := mFr (p.1 * q.1) (p.2 * q.2)
def mRaisedN (p : Int × Int) : Nat → Int × Int
  | 0 => (1, 1)
  | n + 1 => mTimes (mRaisedN p n) p
def mRaised (p : Int × Int) (n : Int) : Int × Int := mRaisedN p n.toNat
def mWeight (m : Meas) : Int := (m.items.map (·.2)).sum
def mChosenN (n : Int) : Nat → Int
  | 0 => 1
  | k + 1 => mChosenN n k * (n - k) / (k + 1)
def mChosen (n k : Int) : Int := mChosenN n k.toNat
theorem mGcd_pos {a b : Int} (h : 0 < b) : 0 < mGcd a b := by
  unfold mGcd
  have : 0 < Int.gcd a b := Nat.pos_of_ne_zero fun e => by
    rw [Int.gcd_eq_zero_iff] at e
    omega
  omega
theorem mGcd_le {a b : Int} (h : 0 < b) : mGcd a b ≤ b := by
  unfold mGcd
  exact Int.le_of_dvd h (Int.gcd_dvd_right ..)
theorem mGcd_abs (a b : Int) : mGcd (if a < 0 then -a else a) b = mGcd a b := by
  unfold mGcd
  split
  · rw [Int.neg_gcd]
  · rfl
theorem mFr_den_pos {a b : Int} (h : 0 < b) : 0 < (mFr a b).2 := by
  unfold mFr
  have h1 := mGcd_pos (a := a) h
  exact Int.ediv_pos_of_pos_of_dvd h (Int.le_of_lt h1) (by unfold mGcd; exact Int.gcd_dvd_right ..)
theorem mFr_den_le {a b : Int} (h : 0 < b) : (mFr a b).2 ≤ b := by
  unfold mFr
  have h1 := mGcd_pos (a := a) h
  exact Int.ediv_le_self _ (by omega)
theorem natAbs_ediv_le (a g : Int) (hg : 0 < g) (hd : g ∣ a) : (a / g).natAbs ≤ a.natAbs := by
  rw [Int.natAbs_ediv_of_dvd hd]
  exact Nat.div_le_self _ _
theorem mFr_num_le {a b : Int} (h : 0 < b) : ((mFr a b).1).natAbs ≤ a.natAbs := by
  unfold mFr
  exact natAbs_ediv_le _ _ (mGcd_pos h) (by unfold mGcd; exact Int.gcd_dvd_left ..)
theorem gcd_step {x y : Int} (hx : 0 ≤ x) (hy : 0 < y) : Int.gcd y (x % y) = Int.gcd x y := by
  obtain ⟨a, rfl⟩ := Int.eq_ofNat_of_zero_le hx
  obtain ⟨b, rfl⟩ := Int.eq_ofNat_of_zero_le (Int.le_of_lt hy)
  rw [← Int.natCast_emod, Int.gcd_natCast_natCast, Int.gcd_natCast_natCast, Nat.gcd_comm b, ← Nat.gcd_rec, Nat.gcd_comm]
end K4
end
section
set_option Elab.async false
set_option linter.all false
set_option maxRecDepth 100000
set_option maxHeartbeats 4000000
namespace K4
open PySem PySem.Spec PyProof.Rows L2 PySem.W
/-! ### a lambda that captures nothing, as a value -/
def LamO (f c' : Addr) (q : Str) (ps : Arguments) (b : Expr) (sc : Scope) : HO := .ext fun h => ∃ pm ctv, h.get? f = some (PySem.W.kla_obj "<lambda>" q ps b sc [] pm c' ctv)
def IsLam (H : Hp) (f : Addr) (q : Str) (ps : Arguments) (b : Expr) (sc : Scope) : Prop := ∃ c', H f = some (LamO f c' q ps b sc) ∧ H c' = some (LamX.CodeO c' q)
theorem lamO_ne {f c' : Addr} {q : Str} {ps : Arguments} {b : Expr} {sc : Scope} (us : Array Value) : LamO f c' q ps b sc ≠ .tbl us := fun z => by
  unfold LamO at z
  cases z
theorem IsLam.le {T : List (Addr × Str)} {H H' : Hp} {f : Addr} {q : Str} {ps : Arguments} {b : Expr} {sc : Scope} (h : IsLam H f q ps b sc) (e : Le T H H') : IsLam H' f q ps b sc := by
  obtain ⟨c', h1, h2⟩ := h
  exact ⟨c', e.ext _ _ h1 lamO_ne, e.ext _ _ h2 LamX.codeO_ne⟩
theorem IsLam.real {S : List Addr} {H : Hp} {f : Addr} {q : Str} {ps : Arguments} {b : Expr} {sc : Scope} (h : IsLam (hd S H) f q ps b sc) : IsLam H f q ps b sc := by
  obtain ⟨c', h1, h2⟩ := h
  exact ⟨c', (hd_some h1).1, (hd_some h2).1⟩
theorem lamO_new {P : Program} {w : World} {H : Hp} {h : Heap} {f c' : Addr} {q : Str} {ps : Arguments} {b : Expr} {sc : Scope} {pm ctv : Value} (e : h.get? f = some (PySem.W.kla_obj "<lambda>" q ps b sc [] pm c' ctv)) : ObjOk P w H h f (LamO f c' q ps b sc) :=
  ⟨⟨pm, ctv, e⟩, ⟨_, e⟩, fun h1 h2 ⟨pm, ctv, a⟩ st => ⟨pm, ctv, st _ a⟩⟩
/-- the making -/
def tLamV (T : List (Addr × Str)) (q : Str) (ps : Arguments) (b : Expr) (sc : Scope) : TE := fun σ H Q => LamX.Tabs T H ∧ ∀ f H1, Le T H H1 → IsLam H1 f q ps b sc → Q (.ref f) H1
section
variable {X : Cx}
theorem pe_lamV {T : List (Addr × Str)} {c P : Addr} {q : Str} {params : Arguments} {body : Expr} {scope : Scope} {pos : Pos} (TB : LamX.TabB X.base X.mg c P) (hcode : X.env.code = .ref c) (hq : X.env.qual ++ "<lambda>" = q) (hm : (P, q) ∈ T) (hu : ∀ p ∈ T, p.1 = P → p.2 = q)
    (hdef : defaultsOf params X.env = ([], []) := by rfl) (hfree : ∀ y ∈ scope.names, y.2 = .free → False := by decide +kernel) (hclo : cloFrom X.env.cells scope.names [] = [] := by rfl) : PE X (.Lambda params body scope pos) (tLamV T q params body scope) := by
  refine ⟨fun pins s σ H Q I h => ?_⟩
  obtain ⟨hT, h⟩ := h
  subst hq
  obtain ⟨ps, hP, ht, ha⟩ := hT _ hm
  change H P = _ at hP
  refine PySem.W.kla_eval hdef ?_
  have atB : s.heap.BuiltinsAt X.mg P := TB.bm.keeps I.bk
  have atP : s.heap.get? P = some { cls := .none, data := .fields ps } := I.hok P _ hP
  have hcl : closureFor scope X.env = Pure.pure (cloFrom X.env.cells scope.names []) := closure_ok fun y hy e => (hfree y hy e).elim
  rw [hclo] at hcl
  cases hc : codeAmong pos ps.toList with
  | none =>
    refine PySem.W.kla_makeFunction (mg := X.mg) (c := c) (P := P) (ps := ps) hcl I.ok.glob (I.mod.glob.keeps I.bk) hcode (TB.code.keeps I.bk) atP ht hc TB.gP atB fun c' ctv h' tk hx hge hlt hrec htb => ?_
    obtain ⟨c2, oc, vs, t, e2, hoc, hda, hv⟩ := hrec
    cases e2
    have hsz : s.heap.objs.size ≤ h'.objs.size := Nat.le_trans hge (Nat.le_of_lt hlt)
    have nC : H c' = none := I.hok.fresh hge
    have nP : P ≠ c' := ne_of_none hP nC
    have I1 := LamX.inv_table (t' := tk) (more := #[rawInt pos.line, rawInt pos.col, .ref c']) (h' := h') (q := X.env.qual ++ "<lambda>") I hP (fun b o hb e => hx b o hb e) htb hge ⟨oc, vs, t, hoc, hda, hv⟩
    have I2 := I1.laid (t' := tk) (a := h'.objs.size) (o := LamO h'.objs.size c' (X.env.qual ++ "<lambda>") params body scope) (h' := h'.push (PySem.W.kla_obj "<lambda>" (X.env.qual ++ "<lambda>") params body scope [] ((X.mg "__name__").getD .none) c' ctv)) (fun b u e => Heap.get?_push_of_some _ e) (Nat.le_refl _) (lamO_new (Heap.get?_push_size _ rfl))
    have n1 : h'.objs.size ≠ c' := Nat.ne_of_gt hlt
    have n2 : h'.objs.size ≠ P := Nat.ne_of_gt (Nat.lt_of_lt_of_le (Heap.lt_size atP) hsz)
    have eL : (ps ++ #[rawInt pos.line, rawInt pos.col, .ref c']).toList = ps.toList ++ [rawInt pos.line, rawInt pos.col, .ref c'] := by simp
    have atC : (upd (upd (upd H P (.tbl (ps ++ #[rawInt pos.line, rawInt pos.col, .ref c']))) c' (LamX.CodeO c' (X.env.qual ++ "<lambda>"))) h'.objs.size (LamO h'.objs.size c' (X.env.qual ++ "<lambda>") params body scope)) c' = some (LamX.CodeO c' (X.env.qual ++ "<lambda>")) := by
      rw [upd_ne n1.symm, upd_same]
    have nF : H h'.objs.size = none := I.hok.fresh hsz
    have hE : ∀ b o, H b = some o → (∀ ps, o ≠ .tbl ps) → (upd (upd (upd H P (.tbl (ps ++ #[rawInt pos.line, rawInt pos.col, .ref c']))) c' (LamX.CodeO c' (X.env.qual ++ "<lambda>"))) h'.objs.size (LamO h'.objs.size c' (X.env.qual ++ "<lambda>") params body scope)) b = some o := fun b o e n => by
      have nb : b ≠ P := fun z => by
        rw [z, hP] at e
        exact n ps (Option.some.inj e).symm
      rw [upd_ne (ne_of_none e nF), upd_ne (ne_of_none e nC), upd_ne nb]
      exact e
    refine ⟨.ref h'.objs.size, _, I2, rfl, h h'.objs.size _ ⟨hE, fun _ p hp => ?_⟩ ⟨c', upd_same, atC⟩⟩
    by_cases hb : p.1 = P
    · rw [hu p hp hb, hb]
      refine ⟨_, by rw [upd_ne n2.symm, upd_ne nP, upd_same], by rw [eL]; exact PySem.TriplesOk_snoc _ _ _ _ ht, fun p' cv hcv => ?_⟩
      rw [eL] at hcv
      rcases LamX.among_app _ ht hcv with z | z
      · obtain ⟨c0, e1, e2⟩ := ha p' cv z
        exact ⟨c0, e1, hE _ _ e2 LamX.codeO_ne⟩
      · exact ⟨c', z, atC⟩
    · obtain ⟨ps', a1, a2, a3⟩ := hT p hp
      refine ⟨ps', by rw [upd_ne (ne_of_none a1 nF), upd_ne (ne_of_none a1 nC), upd_ne hb]; exact a1, a2, fun p' cv hcv => ?_⟩
      obtain ⟨c0, e1, e2⟩ := a3 p' cv hcv
      exact ⟨c0, e1, hE _ _ e2 LamX.codeO_ne⟩
  | some cv =>
    obtain ⟨c', e, hco⟩ := ha pos cv hc
    subst e
    refine PySem.W.kla_makeFunctionHit (mg := X.mg) (c := c) (P := P) (ps := ps) hcl I.ok.glob (I.mod.glob.keeps I.bk) hcode (TB.code.keeps I.bk) atP ht hc atB fun ctv h' tk hx hsz => ?_
    have nF : H h'.objs.size = none := I.hok.fresh hsz
    have I2 := I.laid (t' := tk) (a := h'.objs.size) (o := LamO h'.objs.size c' (X.env.qual ++ "<lambda>") params body scope) (h' := h'.push (PySem.W.kla_obj "<lambda>" (X.env.qual ++ "<lambda>") params body scope [] ((X.mg "__name__").getD .none) c' ctv))
      (fun b u e => Heap.get?_push_of_some _ (hx b u e)) hsz (lamO_new (Heap.get?_push_size _ rfl))
    exact ⟨.ref h'.objs.size, _, I2, rfl, h h'.objs.size _ (.new nF) ⟨c', upd_same, by rw [upd_ne (ne_of_none hco nF)]; exact hco⟩⟩
/-- the call of a name that holds it -/
theorem run_lam {Q : VK} {k : Nat} {P : Program} {w : World} {K : PySem.W.Frag} {mg : Str → Option Value} {base : Heap} {f : Addr} {q : Str} {params : Arguments} {body : Expr} {scope : Scope} {N ps : List Str} {tb : TE} {A : Around} {outer : List Env} {s : Shared} {H : Hp} {us : List Value} {vs : List V}
    (S : FnScope N ps scope) (hr : Room (k + 1) A) (e0 : Env0 P w K mg base A outer s H) (L : IsLam H f q params body scope) (r : Vals vs us) (hl : vs.length = ps.length)
    (hb : ∀ (pm cdv ctv : Value) (us : List Value), us.length = ps.length → bindArgs (PySem.W.kla_fn "<lambda>" q params body scope [] pm cdv ctv) ⟨us, []⟩ = Pure.pure (ps.zip us))
    (hbody : ∀ cd, Room k (A.deeper (envOfC q scope s.heap.objs.size f cd)) → PE (cxOf CX0 P w K mg base N q scope f cd A outer s H E0).nox body tb) (h : tb (start N vs) H Q) :
    codeAny (model P w) A (.call (.ref f) ⟨us, []⟩) (CR CX0 outer P w H s Q E0) s := by
  obtain ⟨c', h1, h2⟩ := L
  obtain ⟨⟨pm, ctv, ho⟩, _, _⟩ := e0.hok f _ h1
  obtain ⟨⟨oc, vs', t, hoc, hdc, hvc⟩, _, _⟩ := e0.hok c' _ h2
  have lim : s.heap.NoLimit := e0.mod.nolimit.keeps fun b o e => (e0.bs b o e).1
  have hkind : ∀ y ∈ ps.zip us, scope.names.lookup y.1 = some .local ∨ (scope.names.lookup y.1 = some .cell ∧ ((cellsFrom (s.heap.objs.size + 1) scope.names []).lookup y.1).isSome = true) := fun ⟨n, v⟩ hy => by
    rcases S.par n (List.of_mem_zip hy).1 with z | z
    · exact .inl z
    · exact .inr ⟨z, PySem.W.cellsFrom_some _ _ _ (.inl z)⟩
  refine PySem.W.kla_callFunE hr.depth ho rfl S.co S.gen rfl ⟨c', oc, vs', t, rfl, hoc, hdc, hvc⟩ ?_
  rw [hb pm _ ctv us (by rw [← r.length]; exact hl)]
  refine wpAny_pure (wpAny_newFunctionEnv_cells S.kind hkind fun env he s1 x => ?_)
  subst he
  refine ⟨lim.keeps x.toInCall.keep, PySem.W.kla_codeExpr ?_⟩
  have I : Inv (cxOf CX0 P w K mg base N q scope f (.ref c') A outer s H E0) [] (start N vs) H s1 := inv_start S hr.hd e0 hl r x
  refine wpAny_mono ((PE.nox (hbody (.ref c') (hr.deeper _))).run [] s1 (start N vs) H _ I h) (fun v s' hs => ?_) fun e s' hs => hs
  obtain ⟨v', H', J, rv, z⟩ := hs
  exact ⟨v', H', J.os, J.bare, J.base, J.hok, rv, z⟩
def tLamC (i n : Nat) (N : List Str) (q : Str) (params : Arguments) (body : Expr) (scope : Scope) (tb : TE) (t : TA) : TE := fun σ H Q => ∃ f, σ[i]? = some (some (.ref f)) ∧ IsLam H f q params body scope ∧ t σ H fun vs H1 => vs.length = n ∧ IsLam H1 f q params body scope ∧ tb (start N vs) H1 Q
theorem pe_lamC {i k : Nat} {x : Str} {q : Str} {params : Arguments} {body : Expr} {scope : Scope} {N ps : List Str} {tb : TE} {p pos : Pos} {e : Expr} {es : List Expr} {t : TA} (S : FnScope N ps scope) (hr : Room (k + 1) X.A) (hN : X.N[i]? = some x) (hv : Vis X.env.scope x) (ha : PA X (e :: es) t)
    (hb : ∀ (pm cdv ctv : Value) (us : List Value), us.length = ps.length → bindArgs (PySem.W.kla_fn "<lambda>" q params body scope [] pm cdv ctv) ⟨us, []⟩ = Pure.pure (ps.zip us))
    (hbody : ∀ (A : Around) (outer : List Env) (s : Shared) (H : Hp) (f : Addr) (cd : Value), Room k (A.deeper (envOfC q scope s.heap.objs.size f cd)) → PE (cxOf CX0 X.prog X.w X.K X.mg X.base N q scope f cd A outer s H E0).nox body tb)
    (hdb : (x == ("__debug__" : Str)) = false := by decide) (hcd : (x == ("__classdict__" : Str)) = false := by decide)
    (he : starEach (e :: es) X.env = (false, eval e X.env) :: starEach es X.env := by rfl) (hpl : (backTo pos (starEach es X.env)).any (·.1) = false := by rfl) : PE X (.Call (.Name x p) (e :: es) [] pos) (tLamC i ps.length N q params body scope tb t) := by
  refine ⟨fun pins s σ H Q I h => ?_⟩
  obtain ⟨f, hs, hL, ht⟩ := h
  refine wpAny_Call_Name_kw (thn ((pe_var (pos := p) hN hv hdb hcd).run pins s σ H (fun v H1 => v = .ref f ∧ H1 = H) I ⟨.ref f, hs, rfl, rfl⟩) fun u s1 ⟨v, H1, I1, r1, q1⟩ => ?_)
  obtain ⟨rfl, rfl⟩ := q1
  cases r1
  have fnAt : ∀ {H : Hp} {s : Shared} {σ : L2.St}, Inv X pins σ H s → IsLam H f q params body scope → FnAt f s.heap := fun I ⟨c', h1, _⟩ => by
    obtain ⟨⟨pm, ctv, ho⟩, _, _⟩ := I.hok f _ h1
    exact ⟨_, _, _, _, ho⟩
  refine PySem.W.callWith_F (fnAt I1 hL) (thn (ha.run pos pins s1 σ _ _ I1 ht) fun us s2 ⟨vs, H2, I2, r, hl, hL2, z⟩ => ⟨fnAt I2 hL2, ?_⟩) he hpl
  refine wpAny_call (codeAny_mono (run_lam S hr I2.env0 hL2 r hl hb (fun cd hr' => hbody X.A X.stack s2 H2 f cd hr') z) fun r s' hq => ?_)
  cases r with
  | error e => exact hq.elim
  | ok fl =>
    cases fl with
    | ret u => exact I2.after hq
    | next => exact False.elim hq
    | brk => exact False.elim hq
    | cont => exact False.elim hq
end
end K4
end
section
set_option Elab.async false
set_option linter.all false
set_option maxRecDepth 100000
set_option maxHeartbeats 4000000
/-! sorted(d), the keys of d tuples of ints, the empty one among them -/
namespace K4
open PySem PySem.Spec PyProof.Rows PySem.W
/-- v stands at h for a tuple of these numbers -/
def TpI (h : Heap) (v : Value) (ns : List Int) : Prop := ∃ (a : Addr) (o : Obj) (items : Array Value) (n : Nat), v = .ref a ∧ h.get? a = some o ∧ o.cls = .type "tuple" ∧ o.data = .seq items n ∧ IntsAre items.toList ns
theorem TpI.type {M : Model} {h : Heap} {v : Value} {ns : List Int} (x : TpI h v ns) : Looks M h (typeOf v) (.type "tuple") := by
  obtain ⟨a, o, items, n, rfl, g, hc, hd, i⟩ := x
  have z : Looks M h (typeOf (.ref a)) o.cls := (Looks.ld g).andThen .now
  rw [hc] at z
  exact z
section
variable {prog : Program} {w : World} {A : Around} {E : Value → Shared → Prop} {s : Shared}
theorem ti_lex : ∀ {xs ys : List Value} {ns ms : List Int} (i : Nat) {fin : Bool} {Q : Bool → Shared → Prop}, IntsAre xs ns → IntsAre ys ms → (∀ ns' ms' : List Int, ns'.length + ys.length = ms'.length + xs.length → (ns' = [] ∨ ms' = []) → HT.lexLt ns' ms' = fin) →
    Q (HT.lexLt ns ms) s → KatLex prog w A true fin Q (xs.zip ys) i s
  | [], ys, _, ms, i, fin, Q, .nil, hy, hf, q => by
    rw [List.zip_nil_left]
    refine kat_nil ?_
    rw [← hf [] ms (by rw [hy.length]; simp) (.inl rfl)]
    exact q
  | x :: xs, [], ns, _, i, fin, Q, hx, .nil, hf, q => by
    rw [List.zip_nil_right]
    refine kat_nil ?_
    rw [← hf ns [] (by rw [hx.length]; simp) (.inr rfl)]
    exact q
  | _ :: xs, _ :: ys, _, _, i, fin, Q, .cons a t hx, .cons c u hy, hf, q => by
    rw [List.zip_cons_cons]
    refine kat_cons (SeqAt.EqAt.int_int a t c u prog w _ _ ?_)
    rw [HT.lexLt_cons] at q
    refine kat_go (fun e => ?_) (fun e => ?_)
    · have e' : a = c := by simpa using e
      rw [if_pos e'] at q
      exact kat_yes (ti_lex (i + 1) hx hy (fun ns' ms' hl => hf ns' ms' (by simp only [List.length_cons]; omega)) q)
    · have e' : ¬ a = c := by simpa using e
      rw [if_neg e'] at q
      refine kat_no ?_
      cases i with
      | zero => exact oneLt_int q
      | succ i => exact kat_one _ _ (PyProof.Rows.lt_int q)
theorem ti_lt_t {v u : Value} {ns ms : List Int} {Q : Bool → Shared → Prop} (hv : TpI s.heap v ns) (hu : TpI s.heap u ms) (q : Q (HT.lexLt ns ms) s) : wpAny (model prog w) A (keyLt' (tuples' true) v u) Q E s := by
  obtain ⟨a, o, xs, n, rfl, ho, hc, hd, hi⟩ := hv
  obtain ⟨b, o', ys, k, rfl, ho', hc', hd', hj⟩ := hu
  refine kat_lt ho hd ho' hd' (ti_lex 0 hi hj (fun ns' ms' hl hn => ?_) q)
  have z1 : xs.toList.length = xs.size := by simp
  have z2 : ys.toList.length = ys.size := by simp
  rw [z1, z2] at hl
  rcases hn with rfl | rfl
  · cases ms' with
    | nil =>
      rw [HT.lexLt_nil_nil]
      exact (decide_eq_false (by simp at hl; omega)).symm
    | cons m r =>
      rw [HT.lexLt_nil_cons]
      exact (decide_eq_true (by simp at hl; omega)).symm
  · cases ns' with
    | nil =>
      rw [HT.lexLt_nil_nil]
      exact (decide_eq_false (by simp at hl; omega)).symm
    | cons m r =>
      rw [HT.lexLt_cons_nil]
      exact (decide_eq_false (by simp at hl; omega)).symm
theorem TpI.tup {h : Heap} {v : Value} {ns : List Int} (x : TpI h v ns) : ∃ a items, v = .ref a ∧ IsTup h a items ∧ IntsAre items.toList ns := by
  obtain ⟨a, o, items, n, rfl, g, hc, hd, i⟩ := x
  exact ⟨a, items, rfl, ⟨o, g, hc, n, hd⟩, i⟩
theorem ti_lt_g {v u : Value} {ns ms : List Int} {Q : Bool → Shared → Prop} (hu0 : A.units < cLine) (hv : TpI s.heap v ns) (hu : TpI s.heap u ms) (q : Q (HT.lexLt ns ms) s) : wpAny (model prog w) A (oneLt' false v u) Q E s := by
  obtain ⟨a, xs, rfl, t1, i1⟩ := hv.tup
  obtain ⟨b, ys, rfl, t2, i2⟩ := hu.tup
  exact kat_one _ _ (HT.lt_tupInts t1 t2 i1 i2 hu0 q)
theorem ti_lt_o {v u : Value} {ns ms : List Int} {Q : Bool → Shared → Prop} (hu0 : A.units < cLine) (hv : TpI s.heap v ns) (hu : TpI s.heap u ms) (q : Q (HT.lexLt ns ms) s) : wpAny (model prog w) A (keyLt' oneType' v u) Q E s := by
  obtain ⟨a, xs, rfl, ⟨⟨cls, dd, data, sl⟩, ho, hc, n, hd⟩, i1⟩ := hv.tup
  obtain ⟨b, ys, rfl, ⟨⟨cls2, dd2, data2, sl2⟩, ho2, hc2, n2, hd2⟩, i2⟩ := hu.tup
  simp only at hc hd hc2 hd2
  subst hc hd hc2 hd2
  rw [keyLt'_oneType, oneLt'_eq]
  simp only [if_true]
  refine wpAny_bind (wpAny_cRoomFor hu0 ?_)
  refine wpAny_bind (wpAny_callSpecialIfBound?_slot (T := "tuple") ⟨_, ho, rfl⟩ PySem.F.slot_tuple_lt (call_meets PySem.F.slot_tuple_lt ⟨_, ho, rfl⟩ PySem.F.entry_tuple_lt (PySem.F.args_tuple_lt_2 _ _) (HT.tuple_lt_ints a b xs ys n n2 dd dd2 sl sl2 ns ms i1 i2) ⟨ho, ho2, ?_⟩))
  exact wpAny_truthy_bool q
/-- the first item of each -/
theorem ti_first {M : Model} {v : Value} {ns : List Int} {Q : Option Value → Shared → Prop} (hv : TpI s.heap v ns) (h : (ns = [] → Q none s) ∧ (∀ n r t, ns = n :: r → Q (some (.int n t)) s)) : wpAny M A (firstOfTuple' v) Q E s := by
  have ty := hv.type (M := M)
  obtain ⟨a, o, items, n, rfl, ho, hc, hd, hi⟩ := hv
  rw [kas_first_eq]
  refine wpAny_bind (ty.here ?_)
  rw [if_neg (by first | decide | simp)]
  refine wpAny_bind (listItems_at ho hd (wpAny_pure ?_))
  have e : items[0]? = items.toList[0]? := by simp
  rw [e]
  generalize items.toList = l at hi
  cases hi with
  | nil => exact h.1 rfl
  | cons n t r => exact h.2 n _ t rfl
theorem ti_firsts {M : Model} : ∀ {vs : List Value} {k : Value → List Int} {Q : List (Option Value) → Shared → Prop}, (∀ v ∈ vs, TpI s.heap v (k v)) →
    (∀ fs : List (Option Value), fs.length = vs.length → (∀ (i : Nat) (v : Value), vs[i]? = some v → (k v = [] → fs[i]? = some none) ∧ (k v ≠ [] → ∃ (n : Int) (t : Tok), fs[i]? = some (some (Value.int n t)))) → Q fs s) → wpAny M A (vs.mapM firstOfTuple') Q E s
  | [], k, Q, _, h => by
    rw [List.mapM_nil]
    exact wpAny_pure (h [] rfl fun i v e => by simp at e)
  | v :: vs, k, Q, hv, h => by
    rw [List.mapM_cons]
    refine wpAny_bind (ti_first (hv v List.mem_cons_self) ⟨fun e => ?_, fun n r t e => ?_⟩)
    · refine wpAny_bind (ti_firsts (fun u hu => hv u (List.mem_cons_of_mem _ hu)) fun fs hl hf => wpAny_pure (h _ (by simp [hl]) fun i u hi => ?_))
      cases i with
      | zero =>
        cases (Option.some.inj (show some v = some u from hi))
        exact ⟨fun _ => rfl, fun n => absurd e n⟩
      | succ i => exact hf i u (by simpa using hi)
    · refine wpAny_bind (ti_firsts (fun u hu => hv u (List.mem_cons_of_mem _ hu)) fun fs hl hf => wpAny_pure (h _ (by simp [hl]) fun i u hi => ?_))
      cases i with
      | zero =>
        cases (Option.some.inj (show some v = some u from hi))
        exact ⟨fun z => (by rw [e] at z; cases z), fun _ => ⟨n, t, rfl⟩⟩
      | succ i => exact hf i u (by simpa using hi)
theorem ti_one {M : Model} {vs : List Value} {T : Value} {Q : Option Value → Shared → Prop} (hne : vs ≠ []) (hT : ∀ v ∈ vs, Looks M s.heap (typeOf v) T) (hT2 : (T == T) = true) (h : Q (some T) s) : wpAny M A (oneTypeOnly' vs.toArray) Q E s := by
  rw [oneTypeOnly'_eq, List.mapM_toArray, map_eq_pure_bind]
  refine wpAny_bind (wpAny_bind (kas_mapM (r := T) _ (fun v hv Q' hq => (hT v hv).here hq) (wpAny_pure ?_)))
  obtain ⟨v₁, r, rfl⟩ : ∃ v₁ r, vs = v₁ :: r := by
    cases vs with
    | nil => exact absurd rfl hne
    | cons a b => exact ⟨a, b, rfl⟩
  have hall : ((List.map (fun _ => T) (v₁ :: r)).toArray.all fun x => x == T) = true := by
    simp only [List.all_toArray, List.all_map, List.all_eq_true]
    intro _ _
    exact hT2
  have h0 : (List.map (fun _ => T) (v₁ :: r)).toArray[0]? = some T := by simp
  rw [h0]
  simp only [hall, if_true]
  exact wpAny_pure h
/-- the kind of keys -/
def tiKind (k : Value → List Int) (vs : List Value) : SortKind := if (∀ v ∈ vs, k v ≠ []) then tuples' true else if (vs.head?.map k) = some [] then oneType' else general'
theorem ti_kind {vs : List Value} {k : Value → List Int} {Q : SortKind → Shared → Prop} (h2 : 2 ≤ vs.length) (hv : ∀ v ∈ vs, TpI s.heap v (k v))
    (h : Q (tiKind k vs) s) : wpAny (model prog w) A (keyKind' vs.toArray) Q E s := by
  have hne : vs ≠ [] := fun z => by rw [z] at h2; simp at h2
  obtain ⟨v₁, hv1⟩ : ∃ v, vs[0]? = some v := ⟨vs[0], List.getElem?_eq_getElem (by omega)⟩
  rw [kat_kind_eq, List.mapM_toArray, map_eq_pure_bind]
  refine wpAny_bind (wpAny_bind (ti_firsts hv fun fs hl hf => wpAny_pure ?_))
  by_cases hall : (fs.toArray.all fun x => x.isSome) = true
  · rw [if_pos hall]
    refine wpAny_bind (wpAny_rule ?_)
    have hk : ∀ v ∈ vs, k v ≠ [] := fun v hm e => by
      obtain ⟨i, hi⟩ := List.mem_iff_getElem?.mp hm
      have e1 := (hf i v hi).1 e
      simp only [List.all_toArray, List.all_eq_true] at hall
      have := hall none (List.mem_of_getElem? e1)
      simp at this
    have hfs : ∀ f ∈ fs.filterMap id, ∃ n t, f = Value.int n t := fun f hm => by
      obtain ⟨g, hg, e⟩ := List.mem_filterMap.mp hm
      obtain ⟨i, hi⟩ := List.mem_iff_getElem?.mp hg
      have hlt : i < vs.length := by
        have := (List.getElem?_eq_some_iff.mp hi).1
        omega
      obtain ⟨n, t, e2⟩ := (hf i _ (List.getElem?_eq_getElem hlt)).2 (hk _ (List.getElem_mem _))
      rw [hi] at e2
      have e3 : g = some (.int n t) := Option.some.inj e2
      rw [e3] at e
      exact ⟨n, t, (Option.some.inj e).symm⟩
    have hfm : (fs.toArray.filterMap id) = (fs.filterMap id).toArray := by simp
    rw [hfm]
    have hn0 : fs.filterMap id ≠ [] := fun z => by
      obtain ⟨n, t, e2⟩ := (hf 0 _ hv1).2 (hk _ (List.mem_of_getElem? hv1))
      have : Value.int n t ∈ fs.filterMap id := List.mem_filterMap.mpr ⟨_, List.mem_of_getElem? e2, rfl⟩
      rw [z] at this
      cases this
    refine wpAny_bind (ti_one (T := .type "int") hn0 (fun f hm => ?_) rfl (wpAny_pure ?_))
    · obtain ⟨n, t, rfl⟩ := hfs f hm
      exact Looks.of_pure rfl
    · have e : ((some (Value.type "int")).any fun x => x != Value.type "tuple") = true := by first | rfl | decide
      rw [e]
      unfold tiKind at h
      rw [if_pos hk] at h
      exact h
  · rw [if_neg hall]
    have hk : ¬ ∀ v ∈ vs, k v ≠ [] := fun z => hall (by
      simp only [List.all_toArray, List.all_eq_true]
      intro x hx
      obtain ⟨i, hi⟩ := List.mem_iff_getElem?.mp hx
      have hlt : i < vs.length := by
        have := (List.getElem?_eq_some_iff.mp hi).1
        omega
      obtain ⟨n, t, e2⟩ := (hf i _ (List.getElem?_eq_getElem hlt)).2 (z _ (List.getElem_mem _))
      rw [hi] at e2
      rw [Option.some.inj e2]
      rfl)
    unfold tiKind at h
    rw [if_neg hk] at h
    have hd : vs.head? = some v₁ := by rw [← hv1]; cases vs <;> rfl
    rw [hd] at h
    have hg : (fs.toArray)[0]? = fs[0]? := by simp
    rw [hg]
    by_cases h0 : k v₁ = []
    · rw [(hf 0 v₁ hv1).1 h0, if_neg (by simp)]
      refine wpAny_bind (ti_one (T := .type "tuple") hne (fun v hm => (hv v hm).type) rfl ?_)
      rw [if_pos (by rw [Option.map_some, h0])] at h
      exact wpAny_pure h
    · obtain ⟨n, t, e⟩ := (hf 0 v₁ hv1).2 h0
      rw [e, if_pos (by rfl)]
      rw [if_neg (by rw [Option.map_some]; exact fun z => h0 (Option.some.inj z))] at h
      exact wpAny_pure h
theorem ti_cmp {vs : List Value} {k : Value → List Int} (hu0 : A.units < cLine) (hv : ∀ v ∈ vs, TpI s.heap v (k v)) : SrtO.Cmp prog w A s (tiKind k vs) (fun p => p.1 ∈ vs) (SrtO.lt2 fun v u => HT.lexLt (k v) (k u)) := by
  intro p q hm hm'
  have h1 := hv _ hm
  have h2 := hv _ hm'
  unfold tiKind
  split
  · exact ti_lt_t h1 h2 ⟨rfl, rfl⟩
  · split
    · exact ti_lt_o hu0 h1 h2 ⟨rfl, rfl⟩
    · exact ti_lt_g hu0 h1 h2 ⟨rfl, rfl⟩
theorem TpI.keeps {h h' : Heap} {v : Value} {ns : List Int} (x : TpI h v ns) (k : ∀ b o, h.get? b = some o → o.cls = .type "tuple" → h'.get? b = some o) : TpI h' v ns := by
  obtain ⟨a, o, items, n, rfl, g, hc, hd, i⟩ := x
  exact ⟨a, o, items, n, rfl, k _ _ g hc, hc, hd, i⟩
theorem ti_sortable {a : Addr} {vs : List Value} {k : Value → List Int} (hu0 : A.units < cLine) (h2 : 2 ≤ vs.length) (hv : ∀ v ∈ vs, TpI s.heap v (k v)) (ha : ∀ o, s.heap.get? a = some o → o.cls ≠ .type "tuple") :
    SrtO.SortableO prog w A s a vs fun v u => HT.lexLt (k v) (k u) := by
  intro h' keep
  have hv' : ∀ v ∈ vs, TpI h' v (k v) := fun v hm => (hv v hm).keeps fun b o e c => keep b o (fun z => by subst z; exact ha o e c) e
  exact ⟨tiKind k vs, fun Q E hq => ti_kind h2 hv' hq, ti_cmp (s := { s with heap := h' }) hu0 hv'⟩
end
/-! ### by values -/
open L2
def adr : Value → Addr
  | .ref a => a
  | _ => 0
/-- the numbers of the tuple that v is -/
def tiOf (H : Hp) (v : Value) : List Int := match H (adr v) with
  | some (.tup xs) => xs.map fun x => match x with
    | .int i => i
    | _ => 0
  | _ => []
theorem tiOf_of {H : Hp} {a : Addr} {ns : List Int} (h : H a = some (.tup (ns.map V.int))) : tiOf H (.ref a) = ns := by
  unfold tiOf adr
  rw [h]
  show (ns.map V.int).map _ = ns
  rw [List.map_map]
  exact (List.map_congr_left fun _ _ => rfl).trans (List.map_id ns)
theorem ti_of {P : Program} {w : World} {H : Hp} {h : Heap} {a : Addr} {ns : List Int} (o : ObjOk P w H h a (.tup (ns.map V.int))) : TpI h (.ref a) ns := by
  obtain ⟨_, its, rv, ob, ho, hc, n, hd⟩ := o
  exact ⟨a, ob, its.toArray, n, rfl, ho, hc, hd, Vals.ints rv⟩
/-- an address, the numbers of the tuple there -/
abbrev KeyAt (H : Hp) (z : Addr × List Int) : Prop := H z.1 = some (.tup (z.2.map V.int))
def rSortDT : List V → Hp → VK → Prop := fun vs H Q => ∃ (a : Addr) (kvs : List (List L2.Key × V)) (ks : List (List Int)), vs = [.ref a] ∧ Rd H a (.dT kvs) ∧ kvs.map (·.1) = ks.map (fun k => k.map Sum.inl) ∧ ks.length ≤ 100000 ∧
  ∀ (p : Addr) (zs : List (Addr × List Int)), (zs.map (·.2)).Perm ks → (zs.map (·.2)).Pairwise (fun x y => HT.lexLt y x = false) → (∀ z ∈ zs, KeyAt H z) → H p = none → Q (.ref p) (upd H p (.lst (zs.map fun z => V.ref z.1)))
theorem refs_out {out : List Value} {as : List Addr} (h : out.Perm (as.map Value.ref)) : out = (out.map adr).map Value.ref := by
  have : ∀ v ∈ out, ∃ a, v = Value.ref a := fun v hv => by
    obtain ⟨a, _, e⟩ := List.mem_map.mp (h.mem_iff.mp hv)
    exact ⟨a, e.symm⟩
  rw [List.map_map]
  refine ((List.map_congr_left fun v hv => ?_).trans (List.map_id out)).symm
  obtain ⟨a, rfl⟩ := this v hv
  rfl
theorem cr_sortDT {X : Cx} (hc : X.calm = true) (hu : X.A.units + 64 < cLine) : CallR X (.builtin "sorted") rSortDT := by
  intro pins s σ H xs us Q I r h
  obtain ⟨a, kvs, ks, rfl, hd, hks, hle, q⟩ := h
  obtain ⟨u, rfl, rx⟩ := r.one
  cases rx
  obtain ⟨z, hs, ys, pr, o, es, ep, ho, hx, hdt, he, hn⟩ := (show ObjOk X.prog X.w H s.heap a (.dT kvs) from hd.ok I.hok)
  have l1 : es.size = ys.length := size_of_entries he
  have l2 : kvs.length = ys.length := Paired.length pr
  have l3 : kvs.length = ks.length := by
    have e := congrArg List.length hks
    rw [List.length_map, List.length_map] at e
    exact e
  refine Calls.call_function_entry PyProof.Rows.kind_sorted PyProof.Rows.plain_sorted PyProof.Rows.entry_sorted (PyProof.Rows.args_sorted1 _) ?_
  unfold Builtin.«sorted»
  refine wpAny_bind (m := checkCount "sorted" 1 1 _) (wpAny_pure ?_)
  refine wpAny_bind (PySem.W.kdu_collect (A := X.A.in1) (kdl_raw hs hx hdt) (I.ok.hd hc) ho (by omega) fun h' tk acc' hk it => ?_)
  have ea : acc'.toList = (ys.map fun x => x.2.1).map Value.ref := by
    have hl : acc'.toList.length = ys.length := by rw [Array.length_toList, it.1]; exact l1
    apply List.ext_getElem?
    intro j
    rw [List.map_map, List.getElem?_map]
    cases hj : acc'.toList[j]? with
    | none =>
      have h1 := List.getElem?_eq_none_iff.mp hj
      rw [List.getElem?_eq_none (by omega)]
      all_goals rfl
    | some v =>
      obtain ⟨en, hen, hv⟩ := it.2 j v (by rw [← Array.getElem?_toList]; exact hj)
      have qe := entry_at he j
      rw [hen] at qe
      cases hb : ys[j]? with
      | none =>
        rw [hb] at qe
        exact nomatch (show some en = none from qe)
      | some b =>
        rw [hb] at qe
        have e2 : en = entryOfKey (tupleKind (mixKind X.prog X.w)) b := Option.some.inj qe
        rw [hv, e2]
        all_goals rfl
  have hkeys : ∀ b ∈ ys.map (fun x => x.2.1), ∃ ns, KeyAt H (b, ns) := by
    intro b hb
    obtain ⟨i, hi⟩ := List.mem_iff_getElem?.mp hb
    rw [List.getElem?_map] at hi
    cases hy : ys[i]? with
    | none => rw [hy] at hi; cases hi
    | some y =>
      rw [hy] at hi
      have eb : y.2.1 = b := Option.some.inj hi
      obtain ⟨p, hp, h1, h2, _⟩ := DX.pget pr hy
      have e1 : (kvs.map (·.1))[i]? = some p.1 := by rw [List.getElem?_map, hp]; rfl
      rw [hks, List.getElem?_map] at e1
      cases hk : ks[i]? with
      | none => rw [hk] at e1; cases e1
      | some k =>
        rw [hk] at e1
        have e2 : k.map Sum.inl = p.1 := Option.some.inj e1
        refine ⟨k, ?_⟩
        show H b = _
        rw [← eb, h2, ← e2, List.map_map]
        rfl
  have hkm : (ys.map fun x => x.2.1).map (fun b => tiOf H (.ref b)) = ks := by
    apply List.ext_getElem?
    intro i
    rw [List.map_map, List.getElem?_map]
    cases hy : ys[i]? with
    | none =>
      have := List.getElem?_eq_none_iff.mp hy
      rw [List.getElem?_eq_none (by omega)]
      rfl
    | some y =>
      obtain ⟨p, hp, h1, h2, _⟩ := DX.pget pr hy
      have e1 : (kvs.map (·.1))[i]? = some p.1 := by rw [List.getElem?_map, hp]; rfl
      rw [hks, List.getElem?_map] at e1
      cases hk : ks[i]? with
      | none => rw [hk] at e1; cases e1
      | some k =>
        rw [hk] at e1
        have e2 : k.map Sum.inl = p.1 := Option.some.inj e1
        show some (tiOf H (.ref y.2.1)) = some k
        rw [tiOf_of (ns := k) (by rw [h2, ← e2, List.map_map]; rfl)]
  generalize hbs : ys.map (fun x => x.2.1) = bs at ea hkeys hkm
  have lb : bs.length = ks.length := by rw [← hkm, List.length_map]
  have hal : acc'.toList.length = bs.length := by rw [ea, List.length_map]
  have I1 : Inv X pins σ H { s with heap := h', toks := tk } := I.kept hk
  have hTI : ∀ v ∈ acc'.toList, TpI h' v (tiOf H v) := fun v hm => by
    rw [ea] at hm
    obtain ⟨b, hb, rfl⟩ := List.mem_map.mp hm
    obtain ⟨ns, hns⟩ := hkeys b hb
    have hns' : H b = some (.tup (ns.map V.int)) := hns
    rw [tiOf_of hns']
    exact ti_of (P := X.prog) (w := X.w) (H := H) (I1.hok b _ hns')
  refine wpAny_bind (wpAny_newList ?_ (by rw [hal, sizeLine_eq]; omega))
  have hoL : (h'.push (seqObj "list" acc'.toList.toArray 0)).get? h'.objs.size = some (seqObj "list" acc'.toList.toArray 0) := Heap.get?_push_size _ rfl
  show wpAny _ _ _ _ _ { s with heap := h'.push (seqObj "list" acc'.toList.toArray 0), toks := tk }
  refine wpAny_bind (wpAny_holding (wpAny_call_entry PyProof.Rows.slot_list_sort ⟨_, hoL, rfl⟩ PyProof.Rows.entry_list_sort
    (SrtO.list_sort_ord (s := { s with heap := h'.push (seqObj "list" acc'.toList.toArray 0), toks := tk }) (NtL.swo_lexL fun u => tiOf H u) hoL (by rw [hal, sizeLine_eq]; omega)
      (fun h2 => ti_sortable (by show X.A.units + 1 + 1 < cLine; omega) h2 (fun v hm => (hTI v hm).keeps fun b o e _ => Heap.get?_push_of_some _ e) fun o e => by
        rw [hoL] at e
        cases e
        intro c
        exact absurd (Value.type.inj c) (by decide)) fun out g1 g2 => ⟨_, rfl, ?_⟩) (PyProof.Rows.args_list_sort _)))
  obtain ⟨e', he'⟩ := PyProof.Rows.sortedHeap_at (vs := acc'.toList) (out := out.toArray) hoL
  have gp : out.Perm (bs.map Value.ref) := by rw [← ea]; exact g2.perm
  have eo := refs_out gp
  have hperm : (out.map adr).Perm bs := by
    have p1 := gp.map adr
    have e3 : (bs.map Value.ref).map adr = bs := by rw [List.map_map]; exact (List.map_congr_left fun _ _ => rfl).trans (List.map_id bs)
    rw [e3] at p1
    exact p1
  have hzs : ∀ z ∈ (out.map adr).map (fun b => (b, tiOf H (.ref b))), KeyAt H z := fun z hz => by
    obtain ⟨b, hb, rfl⟩ := List.mem_map.mp hz
    obtain ⟨ns, hns⟩ := hkeys b (hperm.mem_iff.mp hb)
    have hns' : H b = some (.tup (ns.map V.int)) := hns
    show H b = some (.tup ((tiOf H (.ref b)).map V.int))
    rw [tiOf_of hns']
    exact hns'
  have m2 : ((out.map adr).map (fun b => (b, tiOf H (.ref b)))).map (·.2) = (out.map adr).map (fun b => tiOf H (.ref b)) := by rw [List.map_map]; rfl
  have m1 : ((out.map adr).map (fun b => (b, tiOf H (.ref b)))).map (fun z => V.ref z.1) = (out.map adr).map V.ref := by rw [List.map_map]; rfl
  have hlen : ((out.map adr).map V.ref).length ≤ sizeLine := by
    rw [List.length_map, hperm.length_eq, lb, sizeLine_eq]
    omega
  have rvo : Vals ((out.map adr).map V.ref) out := by
    have z := vals_refs (out.map adr)
    rw [← eo] at z
    exact z
  refine wpAny_pure ⟨_, rfl, .ref h'.objs.size, upd H h'.objs.size (.lst ((out.map adr).map V.ref)), I1.laid (t' := tk) (fun b u e => ?_) (Nat.le_refl _)
    (show ObjOk X.prog X.w _ _ _ (.lst ((out.map adr).map V.ref)) from ⟨hlen, out, e', rvo, he'⟩), rfl, ?_⟩
  · have hb : b < h'.objs.size := Heap.lt_size e
    rw [PyProof.Rows.sortedHeap_old (Nat.ne_of_lt hb) (by rw [size_push']; exact Nat.lt_succ_of_lt hb)]
    exact Heap.get?_push_of_some _ e
  · have := q h'.objs.size _ (by rw [m2, ← hkm]; exact hperm.map _) (by
      rw [m2]
      refine List.pairwise_map.mpr ?_
      have e4 := g1
      rw [eo] at e4
      exact List.pairwise_map.mp e4) hzs (I1.hok.fresh (Nat.le_refl _))
    rw [m1] at this
    exact this
end K4
end
section
set_option Elab.async false
set_option linter.all false
set_option maxRecDepth 100000
set_option maxHeartbeats 4000000
/-! dicts whose keys are tuples: values, items, comprehensions, displays, dict(pairs) -/
namespace K4
open PySem PySem.Spec PyProof.Rows L2 PySem.W
theorem frzT {X : Cx} {pins : List (Addr × Obj)} {σ : L2.St} {H : Hp} {s : Shared} {d : Addr} {o : Obj} {kvs : List (List L2.Key × V)} (I : Inv X pins σ H s) (h : H d = some (.frz o (.dT kvs))) :
    (d == sysModules) = false ∧ ∃ (es : Array DictEntry) (ep : Nat), s.heap.DictRaw d es ep ∧ o.data = .dict es ep ∧ es.size = kvs.length ∧
      ∀ (i : Nat) (hi : i < es.size), ∃ (k : List L2.Key) (v : V) (q : Addr), kvs[i]? = some (k, v) ∧ es[i].key = .ref q ∧ H q = some (.tup (k.map kV)) ∧ RelV v es[i].val := by
  obtain ⟨hd, z, hs, xs, pr, o', es, ep, ho, hx, hdt, he, _⟩ := I.hok d _ h
  rw [hd] at ho
  cases ho
  have l1 : es.size = xs.length := size_of_entries he
  have l2 : kvs.length = xs.length := Paired.length pr
  refine ⟨hs, es, ep, ⟨o, hd, hx, hdt⟩, hdt, by omega, fun i hi => ?_⟩
  have hx' : xs[i]? = some xs[i] := List.getElem?_eq_getElem (by omega)
  obtain ⟨⟨k, v⟩, hp, e1, e2, e3⟩ := DX.pget pr hx'
  have q := entry_at he i
  rw [hx', Array.getElem?_eq_getElem hi] at q
  have e4 : es[i] = entryOfKey (tupleKind (mixKind X.prog X.w)) xs[i] := Option.some.inj q
  refine ⟨k, v, xs[i].2.1, hp, by rw [e4] <;> rfl, e2, by rw [e4]; exact e3⟩
/-- the values -/
def Itdt (d : Addr) (o : Obj) (kvs : List (List L2.Key × V)) : It :=
  ⟨fun i H => H d = some (.frz o (.dT kvs)) ∧ i < kvs.length, fun i H x H' => H' = H ∧ ∃ k, kvs[i]? = some (k, x), fun i H => H d = some (.frz o (.dT kvs)) ∧ kvs.length ≤ i⟩
/-- the pairs, each a new tuple -/
def Itit (d : Addr) (o : Obj) (kvs : List (List L2.Key × V)) : It :=
  ⟨fun i H => H d = some (.frz o (.dT kvs)) ∧ i < kvs.length, fun i H x H' => ∃ T k v q, kvs[i]? = some (k, v) ∧ H q = some (.tup (k.map kV)) ∧ x = .ref T ∧ H T = none ∧ H' = upd H T (.tup [.ref q, v]), fun i H => H d = some (.frz o (.dT kvs)) ∧ kvs.length ≤ i⟩
section
variable {P : Program} {w : World} {K : PySem.W.Frag} {tg : Expr} {d : Addr} {o : Obj} {es : Array DictEntry} {ep : Nat}
theorem turn_valsT {kvs : List (List L2.Key × V)} (it : Addr) (hod : o.data = .dict es ep) : Turn P w K tg (Itdt d o kvs) [it] it (fun i h => h.IsValIter it d i kvs.length ep) where
  mem := by simp
  obj := fun i h st b hb => by
    have e : b = it := by simpa using hb
    subst e
    obtain ⟨oi, e, c, dd⟩ := st
    exact ⟨oi, e, fun v z => by rw [dd] at z; cases z⟩
  keep := fun i h h' st k => st.at fun oi e => k it (by simp) oi e
  item := by
    intro X hP hw hK hc i pins s σ H E I hf st hg
    subst hP hw hK
    obtain ⟨hd, hi⟩ := hg
    obtain ⟨f0, f1, f2, f3, f4, f5⟩ := hf it (by simp)
    obtain ⟨hs, es', ep', hr, hdt, hsz, ent⟩ := frzT I hd
    obtain ⟨rfl, rfl⟩ := dict_ep hod hdt
    obtain ⟨k, v, q, hkv, hkey, hq, rv⟩ := ent i (by omega)
    rw [← hsz] at st
    refine wpAny_pyNext_values_item_raw st hr (by omega) fun h' st' sb => ?_
    have I1 : Inv X pins σ H { s with heap := h' } := I.turned (t' := s.toks) (fun b ob hb e => (sb.2 b hb).trans e) f0 f1 f3 f4 f5
    obtain ⟨oi, e, c, dd⟩ := id st'
    refine ⟨_, rfl, go_of (s := { s with heap := h' }) e c dd (by decide) ⟨v, H, I1, rv, ⟨rfl, k, hkv⟩, ?_, fun b hb => (hf b hb).1⟩⟩
    show h'.IsValIter it d (i + 1) kvs.length _
    rw [← hsz]
    exact st'
  done := by
    intro X hP hw hK hc i pins s σ H E I hf st hg
    subst hP hw hK
    obtain ⟨hd, hi⟩ := hg
    obtain ⟨f0, f1, f2, f3, f4, f5⟩ := hf it (by simp)
    obtain ⟨hs, es', ep', hr, hdt, hsz, ent⟩ := frzT I hd
    obtain ⟨rfl, rfl⟩ := dict_ep hod hdt
    rw [← hsz] at st
    exact wpAny_pyNext_values_end_raw (I.ok.hd hc) st hr (by omega) fun h' eb => ⟨rfl, I.turned (t' := s.toks) (fun b ob hb e => eb b ob hb e) f0 f1 f3 f4 f5⟩
  self := fun A i s Q E st h => wpAny_pyIter_valiter st h
theorem turn_itemsT {kvs : List (List L2.Key × V)} {elts : List Expr} {kk : Nat} {tpos : Pos} (it : Addr) (hod : o.data = .dict es ep) :
    Turn P w K (.Tuple elts kk tpos) (Itit d o kvs) [it] it (fun i h => ∃ ok ov, IsItemIter h it d i kvs.length ep ok ov) where
  mem := by simp
  obj := fun i h st b hb => by
    have e : b = it := by simpa using hb
    subst e
    obtain ⟨ok, ov, e⟩ := st
    exact ⟨_, e, fun v z => nomatch z⟩
  keep := fun i h h' st k => let ⟨ok, ov, e⟩ := st; ⟨ok, ov, k it (by simp) _ e⟩
  item := by
    intro X hP hw hK hc i pins s σ H E I hf st hg
    subst hP hw hK
    obtain ⟨hd, hi⟩ := hg
    obtain ⟨hs, es', ep', hr, hdt, hsz, ent⟩ := frzT I hd
    obtain ⟨rfl, rfl⟩ := dict_ep hod hdt
    obtain ⟨k, v, q, hkv, hkey, hq, rv⟩ := ent i (by omega)
    obtain ⟨ok, ov, he⟩ := st
    rw [← hsz] at he
    have hlt : it < s.heap.objs.size := Heap.lt_size he
    refine wpAny_pyNext_items_item_raw he hr (by omega) fun h' ho hT hz hk => ?_
    rw [hkey] at ho hT
    refine ⟨_, rfl, wpAny_letOwnedTupleGo_items (s := { s with heap := h' }) ho fun h'' he' sb => ?_⟩
    have hT2 := (sb.2 _ (Nat.ne_of_gt hlt)).trans hT
    have new : ObjOk X.prog X.w (upd H s.heap.objs.size (.tup [.ref q, v])) h'' s.heap.objs.size (.tup [.ref q, v]) :=
      ⟨by show 2 ≤ sizeLine; decide, [.ref q, _], .cons rfl (.cons rv .nil), ⟨_, hT2, rfl, _, rfl⟩⟩
    have I1 : Inv X pins σ (upd H s.heap.objs.size (.tup [.ref q, v])) { s with heap := h'' } :=
      I.turnedNew (t' := s.toks) (ch := [it]) (fun b ob hb e => (sb.2 b (by simpa using hb)).trans (hk b ob (by simpa using hb) e)) hf (Nat.le_refl _) new
    refine ⟨.ref s.heap.objs.size, _, I1, rfl, ⟨_, k, v, q, hkv, hq, rfl, I.hok.fresh (Nat.le_refl _), rfl⟩, ⟨.ref q, es'[i].val, ?_⟩, fun b hb => ?_⟩
    · rw [← hsz]; exact he'
    · have e : b = it := by simpa using hb
      rw [e, upd_ne (Nat.ne_of_lt hlt)]
      exact (hf it (by simp)).1
  done := by
    intro X hP hw hK hc i pins s σ H E I hf st hg
    subst hP hw hK
    obtain ⟨hd, hi⟩ := hg
    obtain ⟨f0, f1, f2, f3, f4, f5⟩ := hf it (by simp)
    obtain ⟨hs, es', ep', hr, hdt, hsz, ent⟩ := frzT I hd
    obtain ⟨rfl, rfl⟩ := dict_ep hod hdt
    obtain ⟨ok, ov, he⟩ := st
    rw [← hsz] at he
    exact wpAny_pyNext_items_end_raw (I.ok.hd hc) he hr (by omega) fun h' eb => ⟨rfl, I.turned (t' := s.toks) (fun b ob hb e => eb b ob hb e) f0 f1 f3 f4 f5⟩
  self := fun A i s Q E st h => let ⟨_, _, e⟩ := st; PySem.W.kcp_self e h
end
def iValsT (td : TE) : TI := fun σ H R => td σ H fun x H1 => ∃ d o kvs, x = .ref d ∧ H1 d = some (.frz o (.dT kvs)) ∧ R (Itdt d o kvs) H1
def iItemsT (td : TE) : TI := fun σ H R => td σ H fun x H1 => ∃ d o kvs, x = .ref d ∧ H1 d = some (.frz o (.dT kvs)) ∧ R (Itit d o kvs) H1
section
variable {X : Cx} {tg e : Expr} {td : TE} {apos cpos : Pos}
theorem pi_valuesT (he : PE X e td) (hbase : attributeBase e "values" X.env (eval e X.env) = eval e X.env := by rfl) (hline : (apos.endLine == cpos.line) = true := by rfl) : PI X tg (.Call (.Attribute e "values" apos) [] [] cpos) (iValsT td) := by
  refine ⟨fun pins s σ H R I h => ?_⟩
  refine wpAny_Call_method (T := "dict") (id := "dict.values") hbase rfl hline F.plainAttrs_dict F.slot_dict_values F.type_dict_values (thn (he.run pins s σ H _ I h) fun u s1 ⟨x, H1, I1, rx, d, o, kvs, ex, hd, q⟩ => ?_)
  subst ex
  obtain rfl : u = Value.ref d := rx
  obtain ⟨hs, es, ep, hr, hdt, hsz, ent⟩ := frzT I1 hd
  refine ⟨hr.typeIs, fun b z => ?_, ?_⟩
  · cases z
    obtain ⟨o', ho, hx, _⟩ := hr
    exact ⟨o', ho, hx.2.1⟩
  have I2 : Inv X pins σ H1 { s1 with heap := s1.heap.push { cls := .type "dict_values", data := .fields #[.ref d] } } := I1.kept (t' := s1.toks) fun b ob q => Heap.get?_push_of_some _ q
  have fin : wpAny (model X.prog X.w) X.A (pyIter (.ref s1.heap.objs.size)) (PIE X pins σ tg R) X.xe { s1 with heap := s1.heap.push { cls := .type "dict_values", data := .fields #[.ref d] } } := by
    refine wpAny_pyIter_values_raw (d := d) ⟨_, Heap.get?_push_size _ rfl, rfl, rfl⟩ (hr.at fun o e => Heap.get?_push_of_some _ e) (pi_one (tk := s1.toks) I2 _ (turn_valsT _ hdt) ⟨_, Heap.get?_push_size _ rfl, rfl, ?_⟩ q)
    rw [hsz] <;> rfl
  show wpAny _ _ (callWith cpos (.builtin "dict.values") [.ref d] [] []) _ X.xe s1
  exact method_meetsIn F.slot_dict_values F.entry_dict_values rfl (PySem.evalArgs_none ⟨rfl, hr.typeIs, F.args_dict_values_1 _, _, meets_dict_values_raw d hs, ⟨es, ep, hr⟩, fin⟩)
theorem pi_itemsT {elts : List Expr} {kk : Nat} {tpos : Pos} (he : PE X e td) (hbase : attributeBase e "items" X.env (eval e X.env) = eval e X.env := by rfl) (hline : (apos.endLine == cpos.line) = true := by rfl) :
    PI X (.Tuple elts kk tpos) (.Call (.Attribute e "items" apos) [] [] cpos) (iItemsT td) := by
  refine ⟨fun pins s σ H R I h => ?_⟩
  refine wpAny_Call_method (T := "dict") (id := "dict.items") hbase rfl hline F.plainAttrs_dict F.slot_dict_items F.type_dict_items (thn (he.run pins s σ H _ I h) fun u s1 ⟨x, H1, I1, rx, d, o, kvs, ex, hd, q⟩ => ?_)
  subst ex
  obtain rfl : u = Value.ref d := rx
  obtain ⟨hs, es, ep, hr, hdt, hsz, ent⟩ := frzT I1 hd
  refine ⟨hr.typeIs, fun b z => ?_, ?_⟩
  · cases z
    obtain ⟨o', ho, hx, _⟩ := hr
    exact ⟨o', ho, hx.2.1⟩
  have I2 : Inv X pins σ H1 { s1 with heap := s1.heap.push { cls := .type "dict_items", data := .fields #[.ref d] } } := I1.kept (t' := s1.toks) fun b ob q => Heap.get?_push_of_some _ q
  have fin : wpAny (model X.prog X.w) X.A (pyIter (.ref s1.heap.objs.size)) (PIE X pins σ (.Tuple elts kk tpos) R) X.xe { s1 with heap := s1.heap.push { cls := .type "dict_items", data := .fields #[.ref d] } } := by
    refine wpAny_pyIter_items_raw (d := d) ⟨_, Heap.get?_push_size _ rfl, rfl, rfl⟩ (hr.at fun o e => Heap.get?_push_of_some _ e) (pi_one (tk := s1.toks) I2 _ (turn_itemsT _ hdt) ⟨.none, .none, ?_⟩ q)
    rw [← hsz]
    exact Heap.get?_push_size _ rfl
  show wpAny _ _ (callWith cpos (.builtin "dict.items") [.ref d] [] []) _ X.xe s1
  exact method_meetsIn F.slot_dict_items F.entry_dict_items rfl (PySem.evalArgs_none ⟨rfl, hr.typeIs, F.args_dict_items_1 _, _, meets_dict_items_raw d hs, ⟨es, ep, hr⟩, fin⟩)
end
/-! ### comprehensions -/
theorem d_dictSetT {X : Cx} {pins : List (Addr × Obj)} {σ : L2.St} {H : Hp} {s : Shared} {E : Value → Shared → Prop} {D b : Addr} {kvs : List (List L2.Key × V)} {k : List L2.Key} {v : V} {r : Value} {Q : Unit → Shared → Prop} (hu : X.A.units + 1 < cLine) (I : Inv X pins σ H s) (hD : H D = some (.dT kvs)) (hz : kvs.length < sizeLine)
    (eb : H b = some (.tup (k.map kV))) (rv : RelV v r) (h : ∀ s', Inv X pins σ (upd H D (.dT (putK kvs k v))) s' → Q () s') : wpAny (model X.prog X.w) X.A (dictSet D (.ref b) r) Q E s := by
  obtain ⟨z, hd, xs, rel, dd⟩ := dt_of I.hok hD
  have hzv : xs.length ≤ sizeLine := by rw [← Paired.length rel]; exact z
  have hl : (putK kvs k v).length ≤ sizeLine := by have := length_putK kvs k v; omega
  refine wpAny_dictSet_heap (hsz := hzv) (by show X.A.units < cLine; omega) (key_of I.hok eb) dd fun h' dd' hs => h _ ?_
  obtain ⟨q, es, ep, hq, h2, h3, h4, _, h5⟩ := dd'
  refine d_write I (by rw [hD]; exact True.intro) hs ⟨q, hq⟩ ⟨hl, hd, _, (rel.put k eb rv).keeps fun c ys ec => ?_, q, es, ep, hq, h2, h3, h4, h5⟩
  rw [upd_ne (ne_of ec hD (fun z => nomatch z))]
  exact ec
section
variable {X : Cx}
/-- {k: v for target in iter if ..}, keys tuples: D the new dict -/
def tDcT (wi : L2.TI) (g : TG) (tt : TT) (tk tv : TE) (vs : List Nat) : TE := fun σ H Q => wi σ H fun J H1 => ∀ D, H1 D = none → ∃ W : Nat → Nat → Hp → Prop, (∃ m, W 0 m (upd H1 D (.dT []))) ∧ ∀ i m H, W i m H →
  (J.stop i H ∧ Q (.ref D) H) ∨ (J.go i H ∧ ∃ Nx : Hp → Prop, (∀ H', Nx H' → ∃ m', m' < m ∧ W (i + 1) m' H') ∧ ∀ x H', J.yld i H x H' → g x (wipe σ vs) H' fun σ2 H2 => wipe σ2 vs = wipe σ vs ∧ tt σ2 H2 fun b H3 =>
    if b = true then tk σ2 H3 fun y H4 => tv σ2 H4 fun z H5 => ∃ kvs k q, y = .ref q ∧ H5 q = some (.tup (k.map kV)) ∧ H5 D = some (.dT kvs) ∧ kvs.length < sizeLine ∧ Nx (upd H5 D (.dT (putK kvs k z))) else Nx H3)
theorem dcT_core {pins : List (Addr × Obj)} {s : Shared} {σ : L2.St} {H : Hp} {Q : VK} {kx vx tg iter : Expr} {ifs : List Expr} {scope : Scope} {own : List (Str × Nat)} {pos pos' : Pos} {wi : L2.TI} {g : TG} {tt : TT} {tk tv : TE} {use : Option (Value → Sem Unit)} {Qf : Value → Shared → Prop}
    (hu : X.A.units + 1 < cLine) (hc : X.calm = true) (hN : X.N.Nodup) (I : Inv X pins σ H s) (hi : PI X tg iter wi) (ok : BlkOk X.N X.env.scope scope own)
    (hg : ∀ (s : Shared) (H : Hp) (C : Addr) (cl : List (Str × Addr)) (fp : List Addr), PG (X.blk s H scope (compEnvC scope cl C X.env) fp) tg g) (ht : ∀ (s : Shared) (H : Hp) (C : Addr) (cl : List (Str × Addr)) (fp : List Addr), PTs (X.blk s H scope (compEnvC scope cl C X.env) fp) ifs tt)
    (hk : ∀ (s : Shared) (H : Hp) (C : Addr) (cl : List (Str × Addr)) (fp : List Addr), PE (X.blk s H scope (compEnvC scope cl C X.env) fp) kx tk)
    (he : ∀ (s : Shared) (H : Hp) (C : Addr) (cl : List (Str × Addr)) (fp : List Addr), PE (X.blk s H scope (compEnvC scope cl C X.env) fp) vx tv) (hs : ∀ x, foldedSetIterable iter X.env x = pure x)
    (h : tDcT wi g tt tk tv (own.map (·.2)) σ H Q)
    (hRR : ∀ D C s' m H', Inv X pins σ H' s' → Q (.ref D) H' → s'.heap.Ns C m → FpOk X pins H' C → compPost (model X.prog X.w) X.A X.xe use Qf (.ref D) C (.ok .next) s') :
    wpAny (model X.prog X.w) X.A (comprehension (.DictComp kx vx [⟨tg, iter, ifs, 0⟩] scope pos) scope X.env pos' newDict false (eval iter X.env) use) Qf X.xe s := by
  have hfree : ∀ y ∈ scope.names, y.2 = .free → ∃ c, X.env.cells.lookup y.1 = some c := fun y hy e => by
    rcases ok.free y hy e with k | k
    · exact I.ok.has _ (.inl k)
    · exact I.ok.has _ (.inr k)
  refine wpAny_comprehension_free (use := use) rfl hs (closure_ok hfree) ok.kind (fun y hy e => by rw [ok.uniq y hy, e])
    (thn (hi.run pins s σ H _ I h) fun xv s1 hx => thn hx fun itv s2 h2 => ?_)
  obtain ⟨it, fp, tn, J, H2, e, I2, T, st2, f2, q⟩ := h2
  subst e
  refine wpAny_newObj_type (newEnv_comp ?_)
  generalize hD : s2.heap.objs.size = D
  have hDn : H2 D = none := I2.hok.fresh (Nat.le_of_eq hD)
  obtain ⟨W, ⟨m0, w0⟩, turn⟩ := q D hDn
  generalize hs3 : ({ s2 with heap := s2.heap.push { cls := .type "dict", data := .dict #[] } } : Shared) = s3
  have I3 : Inv X pins σ (upd H2 D (.dT [])) s3 := by
    rw [← hs3]
    refine I2.laid (t' := s2.toks) (fun b o e => Heap.get?_push_of_some _ e) (Nat.le_of_eq hD) ?_
    rw [← hD]
    exact dt_empty s2.heap I2.big
  have h3 : s3.heap = s2.heap.push { cls := .type "dict", data := .dict #[] } := by rw [← hs3]
  have sz : ∀ b ∈ fp, b < s2.heap.objs.size := fun b hb => by
    obtain ⟨o, e, _⟩ := T.obj _ _ st2 b hb
    exact Heap.lt_size e
  have f3 : ∀ b ∈ fp, FpOk X pins (upd H2 D (.dT [])) b ∧ b < s3.heap.objs.size := fun b hb => by
    have hlt := sz b hb
    refine ⟨⟨?_, (f2 b hb).2⟩, by rw [h3, Heap.size_push]; exact Nat.lt_succ_of_lt hlt⟩
    rw [upd_ne (by rw [← hD]; exact Nat.ne_of_lt hlt)]
    exact (f2 b hb).1
  have st3 : tn 0 s3.heap := T.keep _ _ _ st2 fun b _ o e => by rw [h3]; exact Heap.get?_push_of_some _ e
  have I4 := block_start I3 ok hN f3
  have pg := hg s3 (upd H2 D (.dT [])) s3.heap.objs.size (cellsFrom (s3.heap.objs.size + 1) scope.names (cloFrom X.env.cells scope.names [])) fp
  have pt := ht s3 (upd H2 D (.dT [])) s3.heap.objs.size (cellsFrom (s3.heap.objs.size + 1) scope.names (cloFrom X.env.cells scope.names [])) fp
  have pk := hk s3 (upd H2 D (.dT [])) s3.heap.objs.size (cellsFrom (s3.heap.objs.size + 1) scope.names (cloFrom X.env.cells scope.names [])) fp
  have pe := he s3 (upd H2 D (.dT [])) s3.heap.objs.size (cellsFrom (s3.heap.objs.size + 1) scope.names (cloFrom X.env.cells scope.names [])) fp
  show codeAny _ _ (.compStart (.DictComp kx vx [⟨tg, iter, ifs, 0⟩] scope pos) 0 (.ref it) (.ref D) (compEnvC scope (cellsFrom (s3.heap.objs.size + 1) scope.names (cloFrom X.env.cells scope.names [])) s3.heap.objs.size X.env)) (compPost (model X.prog X.w) X.A X.xe use Qf (.ref D) s3.heap.objs.size) { s3 with heap := pushCells (s3.heap.push { cls := .type "dict", data := .dict #[] }) scope.names }
  have nfp : ∀ b ∈ fp, (upd H2 D (.dT [])) b = none := fun b hb => (f3 b hb).1.1
  generalize hce : compEnvC scope (cellsFrom (s3.heap.objs.size + 1) scope.names (cloFrom X.env.cells scope.names [])) s3.heap.objs.size X.env = ce at I4 pg pt pk pe ⊢
  have cL : ce.locals = s3.heap.objs.size := by subst hce; rfl
  generalize hH3 : upd H2 D (.dT []) = H3 at I3 I4 pg pt pk pe w0 nfp f3
  generalize hs4 : ({ s3 with heap := pushCells (s3.heap.push { cls := .type "dict", data := .dict #[] }) scope.names } : Shared) = s4 at I4 ⊢
  have st4 : tn 0 s4.heap := T.keep _ _ _ st3 fun b _ o e => by rw [← hs4]; exact pushCells_keeps _ _ _ _ (Heap.get?_push_of_some _ e)
  have stat : ∀ {σ' : L2.St} {H' : Hp} {s' : Shared}, Inv (X.blk s3 H3 scope ce fp) [] σ' H' s' → (∀ b ∈ fp, H' b = none) → ∀ b ∈ fp, FpOk (X.blk s3 H3 scope ce fp) [] H' b := fun {σ' H' s'} I' hn b hb =>
    ⟨hn b hb, (I'.ok.exf b hb).1, I'.ok.exfs b hb, .inl hb, fun x c e => (I'.ok.exf b hb).2 x c e, fun p hp => absurd (show p ∈ ([] : List (Addr × Obj)) ++ [] from hp) (by simp)⟩
  have loop : codeAny (model X.prog X.w) X.A (.compLoop (.DictComp kx vx [⟨tg, iter, ifs, 0⟩] scope pos) 0 (.ref it) (.ref D) ce) (compPost (model X.prog X.w) X.A X.xe use Qf (.ref D) s3.heap.objs.size) s4 := by
    refine compLoop_anyD (fun n s' => ∃ i H', Inv (X.blk s3 H3 scope ce fp) [] (wipe σ (own.map (·.2))) H' s' ∧ tn i s'.heap ∧ (∀ b ∈ fp, H' b = none) ∧ W i n H') ?_ m0 ⟨0, H3, I4, st4, nfp, w0⟩
    rintro n s5 ⟨i, H5, I5, st5, n5, w5⟩
    rcases turn i n H5 w5 with ⟨stop, qq⟩ | ⟨go, Nx, hNx, step⟩
    · have td := T.done (X.blk s3 H3 scope ce fp) rfl rfl rfl hc i [] s5 _ H5 (fun _ _ => False) I5 (stat I5 n5) st5 stop
      refine thnF td fun r s6 ⟨hr, I6⟩ => ?_
      subst hr
      have I7 : Inv X pins σ H5 s6 := I3.call' (ch := fp) I6.os I6.base I6.hok I6.bare fun b hb => ⟨(f3 b hb).1.2.2.2.1, (f3 b hb).1.2.1, (f3 b hb).1.2.2.2.2.1, (f3 b hb).1.2.2.2.2.2⟩
      have nC : H5 s3.heap.objs.size = none := by
        have z : H5 ce.locals = none := I6.free
        rw [cL] at z
        exact z
      obtain ⟨m, hn, _⟩ := I6.loc
      have hn : s6.heap.Ns ce.locals m := hn
      rw [cL] at hn
      exact hRR D s3.heap.objs.size s6 m H5 I7 qq hn (I3.fpOk (Nat.le_refl _) nC)
    · have ti := T.item (X.blk s3 H3 scope ce fp) rfl rfl rfl hc i [] s5 _ H5 (fun _ _ => False) I5 (stat I5 n5) st5 go
      refine thnF ti fun r s6 ⟨u, hr, h6⟩ => ?_
      subst hr
      refine thnF h6 fun _ s7 ⟨x, H7, I7, r7, y7, st7, n7⟩ => ?_
      have I7' := I7.pinned (stat I7 n7) (T.obj _ _ st7)
      refine thnF (pg.run _ s7 _ H7 x u _ I7' r7 (step x H7 y7)) fun _ s8 ⟨σ8, H8, I8, hw8, q8⟩ => ?_
      refine thnF (pt.run _ s8 σ8 H8 _ I8 q8) fun b s9 ⟨H9, I9, q9⟩ => ?_
      have fin : ∀ {s' : Shared} {H' : Hp}, Inv (X.blk s3 H3 scope ce fp) ([] ++ pinsAt fp s7.heap) σ8 H' s' → Nx H' → ∃ m, m < n ∧ ∃ i H', Inv (X.blk s3 H3 scope ce fp) [] (wipe σ (own.map (·.2))) H' s' ∧ tn i s'.heap ∧ (∀ b ∈ fp, H' b = none) ∧ W i m H' := fun {s' H'} I' nx => by
        obtain ⟨m', hm, w'⟩ := hNx H' nx
        have pin' : ∀ b ∈ fp, ∀ o, s7.heap.get? b = some o → s'.heap.get? b = some o ∧ H' b = none := fun b hb o e =>
          let z := I'.pin (b, o) (List.mem_append_right _ (List.mem_append_right _ (mem_pinsAt hb e)))
          ⟨z.1, z.2.1⟩
        have hl : (wipe σ (own.map (·.2))).length = σ8.length := by rw [← hw8, wipe_length]
        refine ⟨m', hm, i + 1, H', (I'.unpinned (pins := [])).weak hl (fun j v e => ?_), T.keep _ _ _ st7 fun b hb o e => (pin' b hb o e).1, fun b hb => ?_, w'⟩
        · rw [← hw8] at e
          exact (wipe_some e).1
        · obtain ⟨o, e, _⟩ := T.obj _ _ st7 b hb
          exact (pin' b hb o e).2
      cases b with
      | false =>
        simp only [Bool.false_eq_true, if_false] at q9 ⊢
        exact fin I9 q9
      | true =>
        simp only [if_true] at q9 ⊢
        refine thnF (pk.run _ s9 σ8 H9 _ I9 q9) fun z s10 ⟨yk, H10, I10, r10, q10⟩ => ?_
        refine thnF (pe.run _ s10 σ8 H10 _ I10 q10) fun z2 s11 ⟨yv, H11, I11, r11, kvs, k, q, ek, hq, hD11, hz11, nx⟩ => ?_
        subst ek
        cases r10
        exact d_dictSetT (X := X.blk s3 H3 scope ce fp) hu I11 hD11 hz11 hq r11 fun s12 I12 => fin I12 nx
  exact codeAny_compStart_dict loop (T.self X.A 0 _ _ _ st4 loop)
/-- as a value -/
theorem pe_dcT {kx vx tg iter : Expr} {ifs : List Expr} {scope : Scope} {own : List (Str × Nat)} {pos : Pos} {wi : L2.TI} {g : TG} {tt : TT} {tk tv : TE} (hu : X.A.units + 1 < cLine) (hc : X.calm = true) (hN : X.N.Nodup) (hi : PI X tg iter wi) (ok : BlkOk X.N X.env.scope scope own)
    (hg : ∀ (s : Shared) (H : Hp) (C : Addr) (cl : List (Str × Addr)) (fp : List Addr), PG (X.blk s H scope (compEnvC scope cl C X.env) fp) tg g) (ht : ∀ (s : Shared) (H : Hp) (C : Addr) (cl : List (Str × Addr)) (fp : List Addr), PTs (X.blk s H scope (compEnvC scope cl C X.env) fp) ifs tt)
    (hk : ∀ (s : Shared) (H : Hp) (C : Addr) (cl : List (Str × Addr)) (fp : List Addr), PE (X.blk s H scope (compEnvC scope cl C X.env) fp) kx tk)
    (he : ∀ (s : Shared) (H : Hp) (C : Addr) (cl : List (Str × Addr)) (fp : List Addr), PE (X.blk s H scope (compEnvC scope cl C X.env) fp) vx tv) (hs : ∀ x, foldedSetIterable iter X.env x = pure x := by intro _; rfl) :
    PE X (.DictComp kx vx [⟨tg, iter, ifs, 0⟩] scope pos) (tDcT wi g tt tk tv (own.map (·.2))) := by
  refine ⟨fun pins s σ H Q I h => ?_⟩
  rw [arm_eval_DictComp]
  refine dcT_core hu hc hN I hi ok hg ht hk he hs h fun D C s' m H' I' q hn f => ⟨m, hn, fun h'' sb => ?_⟩
  obtain ⟨f0, f1, f2, f3, f4, f5⟩ := f
  exact ⟨.ref D, H', I'.turned (t' := s'.toks) (fun b o hb e => (sb.2 b hb).trans e) f0 f1 f3 f4 f5, rfl, q⟩
/-! ### {k: v}, k a tuple -/
def tDispT (tk tv : TE) : TE := fun σ H Q => ∀ p, H p = none → tk σ (upd H p (.dT [])) fun x H1 => tv σ H1 fun y H2 => ∃ q k, x = .ref q ∧ H2 q = some (.tup (k.map kV)) ∧ H2 p = some (.dT []) ∧ Q (.ref p) (upd H2 p (.dT [(k, y)]))
theorem pe_dispT {k v : Expr} {tk tv : TE} {pos : Pos} (hu : X.A.units + 1 < cLine) (hk : PE X k tk) (hv : PE X v tv) : PE X (.Dict [some k] [v] pos) (tDispT tk tv) := by
  refine ⟨fun pins s σ H Q I q => ?_⟩
  have hn := I.hok.fresh (Nat.le_refl s.heap.objs.size)
  have I1 := I.laid (a := s.heap.objs.size) (o := .dT []) (h' := s.heap.push { cls := .type "dict", data := .dict #[] }) (t' := s.toks) (fun _ _ q => Heap.get?_push_of_some _ q) (Nat.le_refl _) (dt_empty s.heap I.big)
  have hu' : X.A.units < cLine := by omega
  refine wpAny_Dict_any rfl rfl (by simp) (by simp) (pairTrees_cons_walk (thn (hk.run pins _ σ _ _ I1 (q _ hn)) fun u s2 ⟨x, H2, I2, rx, q2⟩ => thn (hv.run pins s2 σ H2 _ I2 q2) fun r s3 ⟨y, H3, I3, ry, qa, kk, ex, hq, hp, q3⟩ => pairTrees_nil_walk ?_))
  subst ex
  cases rx
  show wpAny _ _ (storeAll _ [(Value.ref qa, r)]) _ _ s3
  unfold storeAll
  rw [List.forIn_cons]
  refine wpAny_bind (wpAny_bind (d_dictSetT hu I3 hp (by rw [sizeLine_eq]; simp) hq ry fun s4 I4 => wpAny_pure ?_))
  show wpAny _ _ (forIn ([] : List (Value × Value)) PUnit.unit _) _ _ _
  rw [List.forIn_nil]
  exact wpAny_pure ⟨.ref s.heap.objs.size, _, I4, rfl, q3⟩
end
/-! ### dict(pairs), the pairs a tuple whose object is known -/
def mergeT (kvs more : List (List L2.Key × V)) : List (List L2.Key × V) := more.foldl (fun acc kv => putK acc kv.1 kv.2) kvs
theorem length_mergeT : ∀ (more kvs : List (List L2.Key × V)), (mergeT kvs more).length ≤ kvs.length + more.length
  | [], kvs => by show kvs.length ≤ kvs.length + 0; omega
  | p :: r, kvs => by
    have h1 := length_mergeT r (putK kvs p.1 p.2)
    have h2 := length_putK kvs p.1 p.2
    show (mergeT (putK kvs p.1 p.2) r).length ≤ _
    rw [List.length_cons]; omega
/-- a pair: where it stands, where its key stands, the key, the value -/
abbrev PairT := Addr × Addr × List L2.Key × V
def rDictPT : List V → Hp → VK → Prop := fun xs H Q => ∃ (a : Addr) (o : Obj) (ps : List PairT), xs = [.ref a] ∧ H a = some (.frz o (.tup (ps.map fun z => V.ref z.1))) ∧ o.dict = none ∧
  (∀ z ∈ ps, Rd H z.1 (.tup [.ref z.2.1, z.2.2.2]) ∧ H z.2.1 = some (.tup (z.2.2.1.map kV))) ∧ ∀ p, H p = none → Q (.ref p) (upd H p (.dT (mergeT [] (ps.map fun z => z.2.2))))
theorem pairsT_of {X : Cx} {pins : List (Addr × Obj)} {σ : L2.St} {H : Hp} {s : Shared} (I : Inv X pins σ H s) : ∀ (ps : List PairT), (∀ z ∈ ps, Rd H z.1 (.tup [.ref z.2.1, z.2.2.2]) ∧ H z.2.1 = some (.tup (z.2.2.1.map kV))) →
    ∃ us : List Value, us.length = ps.length ∧ ∀ (j : Nat) (z : PairT), ps[j]? = some z → ∃ u, us[j]? = some u ∧ RelV z.2.2.2 u ∧ IsTup s.heap z.1 #[.ref z.2.1, u]
  | [], _ => ⟨[], rfl, fun j z e => by simp at e⟩
  | z :: ps, h => by
    obtain ⟨us, hl, hu⟩ := pairsT_of I ps fun y hy => h y (List.mem_cons_of_mem _ hy)
    obtain ⟨its, rv, ht, _⟩ := I.tuple (.inl (h z List.mem_cons_self).1)
    obtain ⟨u, y, ei, ru, ry⟩ := vals2 rv
    subst ei
    cases ru
    refine ⟨y :: us, by rw [List.length_cons, List.length_cons, hl], fun j x e => ?_⟩
    cases j with
    | zero =>
      cases (Option.some.inj (show some z = some x from e))
      exact ⟨y, rfl, ry, ht⟩
    | succ j =>
      obtain ⟨u, e1, e2⟩ := hu j x (by simpa using e)
      exact ⟨u, by simpa using e1, e2⟩
/-- the entries made of them -/
def entH (ps : List PairT) (us : List Value) : List (List L2.Key × Addr × Value) := (ps.zip us).map fun z => (z.1.2.2.1, z.1.2.1, z.2)
theorem KT_merge {H : Hp} : ∀ (ps : List PairT) (us : List Value) {kvs : List (List L2.Key × V)} {xs : List (List L2.Key × Addr × Value)}, us.length = ps.length → (∀ z ∈ ps, H z.2.1 = some (.tup (z.2.2.1.map kV))) →
    (∀ (j : Nat) (z : PairT), ps[j]? = some z → ∃ u, us[j]? = some u ∧ RelV z.2.2.2 u) → KT H kvs xs → KT H (mergeT kvs (ps.map fun z => z.2.2)) (storedAllH xs (entH ps us))
  | [], _, _, _, _, _, _, r => by
    unfold entH
    rw [List.zip_nil_left]
    exact r
  | z :: ps, [], _, _, hl, _, _, _ => by simp at hl
  | z :: ps, u :: us, kvs, xs, hl, hk, hv, r => by
    obtain ⟨u', e1, e2⟩ := hv 0 z rfl
    cases (Option.some.inj (show some u = some u' from e1))
    exact KT_merge ps us (kvs := putK kvs z.2.2.1 z.2.2.2) (xs := storedH xs z.2.2.1 z.2.1 u) (by simpa using hl) (fun y hy => hk y (List.mem_cons_of_mem _ hy)) (fun j y e => by
      obtain ⟨u2, a, b⟩ := hv (j + 1) y (by simpa using e)
      exact ⟨u2, by simpa using a, b⟩) (r.put _ (hk z List.mem_cons_self) e2)
theorem cr_dictPT {X : Cx} (hc : X.calm = true) (hu : X.A.units + 64 < cLine) : CallR X (.type "dict") rDictPT := by
  intro pins s σ H xs us Q I r h
  obtain ⟨a, o, ps, rfl, ha, ho, hp, q⟩ := h
  obtain ⟨v, rfl, rx⟩ := r.one
  cases rx
  obtain ⟨hao, hz, its, rv, o', ho', hc', n, hd'⟩ := (show ObjOk X.prog X.w H s.heap a (.frz o (.tup (ps.map fun z => V.ref z.1))) from I.hok a _ ha)
  rw [hao] at ho'
  cases ho'
  obtain ⟨us, hl, hus⟩ := pairsT_of I ps hp
  have ei : its = (ps.map fun z => z.1).map Value.ref := by
    have z := refs_at (ps := ps.map fun z => z.1) (us := its) (by rw [List.map_map]; exact rv)
    exact z
  have lz : (ps.zip us).length = ps.length := by rw [List.length_zip, hl, Nat.min_self]
  have le : (entH ps us).length = ps.length := by unfold entH; rw [List.length_map, lz]
  have hzi : ∀ (j : Nat) (z : PairT), ps[j]? = some z → ∃ u, (ps.zip us)[j]? = some (z, u) ∧ RelV z.2.2.2 u ∧ IsTup s.heap z.1 #[.ref z.2.1, u] := fun j z e => by
    obtain ⟨u, e1, e2, e3⟩ := hus j z e
    exact ⟨u, List.getElem?_zip_eq_some.mpr ⟨e, e1⟩, e2, e3⟩
  have lz' : ps.length ≤ sizeLine := by rw [List.length_map] at hz; exact hz
  have key : ∀ x ∈ entH ps us, H x.2.1 = some (.tup (x.1.map kV)) := fun x hx => by
    obtain ⟨z, hz, rfl⟩ := List.mem_map.mp hx
    exact (hp z.1 (List.of_mem_zip hz).1).2
  refine call_dict_pairsH (knd := tupleKind (mixKind X.prog X.w)) (PairArg.tuple a its.toArray (fun j => (ps.map fun z => z.1).getD j 0) ((ps.zip us).map fun z => (Value.ref z.1.2.1, z.2))) (I.ok.hd hc) (by show X.A.units + 1 + 1 < cLine; omega)
    ⟨⟨o, n, hao, hc', ho, hd'⟩, ?_, ?_⟩ (ps := entH ps us) ⟨by rw [le, List.length_map, lz], ?_⟩ ?_ (by rw [List.length_map, lz]; exact lz') fun h' tk dd kp => ?_
  · rw [ei, List.length_map, lz]
    simp
  · intro j k v e
    rw [List.getElem?_map] at e
    cases hj : (ps.zip us)[j]? with
    | none => rw [hj] at e; cases e
    | some x =>
      obtain ⟨z, u⟩ := x
      rw [hj] at e
      obtain ⟨h1, h2⟩ := Prod.mk.inj (Option.some.inj e)
      have hps := (List.getElem?_zip_eq_some.mp hj).1
      obtain ⟨u', e1, e2, e3⟩ := hzi j z hps
      rw [hj] at e1
      have e4 : u = u' := (Prod.mk.inj (Option.some.inj e1)).2
      have g : (ps.map fun z => z.1)[j]? = some z.1 := by rw [List.getElem?_map, hps]; rfl
      have gd : (ps.map fun z => z.1).getD j 0 = z.1 := by rw [List.getD_eq_getElem?_getD, g]; rfl
      refine ⟨?_, ?_⟩
      · show its.toArray[j]? = some (.ref ((ps.map fun z => z.1).getD j 0))
        rw [ei, gd, List.getElem?_toArray, List.getElem?_map, g]
        rfl
      · show PairAt s.heap ((ps.map fun z => z.1).getD j 0) k v
        rw [gd, ← h1, ← h2]
        refine .inl ?_
        show IsTup s.heap z.1 #[.ref z.2.1, u]
        rw [e4]
        exact e3
  · intro i k v e
    have e' : ((ps.zip us).map fun z => (Value.ref z.1.2.1, z.2))[i]? = some (k, v) := e
    rw [List.getElem?_map] at e'
    cases hj : (ps.zip us)[i]? with
    | none => rw [hj] at e'; cases e'
    | some x =>
      rw [hj] at e'
      obtain ⟨h1, h2⟩ := Prod.mk.inj (Option.some.inj e')
      refine ⟨x.1.2.2.1, x.1.2.1, ?_, h1.symm⟩
      unfold entH
      rw [List.getElem?_map, hj]
      show some (x.1.2.2.1, x.1.2.1, x.2) = _
      rw [← h2]
  · intro h' kp x hx
    obtain ⟨o1, i1, n1, ho1, hc1, hd1, hi1⟩ := (show IsTupleKey (mixKind X.prog X.w) s.heap x.1 x.2.1 from key_of I.hok (key x hx))
    exact ⟨o1, i1, n1, kp _ _ (Nat.ne_of_lt (Heap.lt_size ho1)) (by simp) ho1, hc1, hd1, hi1⟩
  · have kp' : ∀ b o, s.heap.get? b = some o → h'.get? b = some o := fun b o e => kp b o (by simp) e
    have hm : (s.heap.objs.size == sysModules) = false := beq_eq_false_iff_ne.mpr (Nat.ne_of_gt I.big)
    have hn : H s.heap.objs.size = none := I.hok.fresh (Nat.le_refl _)
    obtain ⟨ob, es, ep, h1, h2, h3, h4, _, h5⟩ := dd
    have kt : KT H (mergeT [] (ps.map fun z => z.2.2)) (storedAllH [] (entH ps us)) := KT_merge ps us hl (fun z hz => (hp z hz).2) (fun j z e => by
      obtain ⟨u, e1, e2, _⟩ := hus j z e
      exact ⟨u, e1, e2⟩) .nil
    have hlen : (mergeT [] (ps.map fun z => z.2.2)).length ≤ sizeLine := by
      refine Nat.le_trans (length_mergeT _ []) ?_
      rw [List.length_nil, Nat.zero_add, List.length_map]
      exact lz'
    exact ⟨.ref s.heap.objs.size, _, I.laid (t' := tk) (o := .dT (mergeT [] (ps.map fun z => z.2.2))) kp' (Nat.le_refl _) ⟨hlen, hm, _, kt.keeps fun c ys ec => (by rw [upd_ne (ne_of_none ec hn)]; exact ec), ob, es, ep, h1, h2, h3, h4, h5⟩, rfl, q _ hn⟩
/-! ### tuple(list), its object known -/
def kTupF (K : PySem.W.Frag) (x : V) (H : Hp) (Q : VK) : Prop := ∃ p xs, x = .ref p ∧ SqL K H p xs ∧ ∀ q o, H q = none → o.dict = none → Q (.ref q) (upd H q (.frz o (.tup xs)))
theorem rl_tupleF {X : Cx} (pins : List (Addr × Obj)) (s : Shared) (σ : L2.St) (H : Hp) (x : V) (v : Value) (Q : VK) (I : Inv X pins σ H s) (r : RelV x v) (h : kTupF X.K x H Q) :
    wpAny (model X.prog X.w) X.A (call (.type "tuple") [v]) (EP X pins σ Q) X.xe s := by
  obtain ⟨p, xs, rfl, hs, q⟩ := h
  obtain rfl : v = .ref p := r
  obtain ⟨its, rv, pl, hz⟩ := I.list hs
  refine call_tuple_list pl.isList (fun h' hk => ?_) (by rw [List.size_toArray, ← rv.length]; exact hz)
  have I1 : Inv X pins σ H { s with heap := h' } := I.kept (t' := s.toks) hk
  have I2 : Inv X pins σ (upd H h'.objs.size (.frz { cls := .type "tuple", data := .seq its.toArray } (.tup xs))) { s with heap := h'.push { cls := .type "tuple", data := .seq its.toArray } } :=
    I1.laid (t' := s.toks) (fun b o e => Heap.get?_push_of_some _ e) (Nat.le_refl _) ⟨Heap.get?_push_size _ rfl, hz, its, rv, IsTup.new _ _⟩
  exact ⟨.ref h'.objs.size, _, I2, rfl, q _ _ (I1.hok.fresh (Nat.le_refl _)) rfl⟩
theorem pe_tupleF {X : Cx} {a : Expr} {ta : TE} {p pos : Pos} (hg : Gl X "tuple") (hm : X.mg "tuple" = none) (ha : PE X a ta) (na : starEach [a] X.env = (false, eval a X.env) :: starEach [] X.env := by rfl) :
    PE X (.Call (.Name "tuple" p) [a] [] pos) (tThen ta (kTupF X.K)) := by
  refine ⟨fun pins s σ H Q I h => ?_⟩
  exact Call_ (ld_blt I hg hm boot_tuple (PyProof.Rows.callWith_type1 (one_arg ha I h (fun v s2 x H2 I2 r q => rl_tupleF pins s2 σ H2 x v Q I2 r q) na) na))
end K4
end
section
set_option Elab.async false
set_option linter.all false
set_option maxRecDepth 100000
set_option maxHeartbeats 4000000
namespace K4
open PySem PySem.Spec PyProof.Rows L2 PySem.W
theorem repAll_zs {α β : Type} [DecidableEq α] [Datum α] {H : Hp} {f : β → V} {g : β → α} : ∀ {zs : List β}, (∀ z ∈ zs, Rep H (f z) (g z)) → RepAll H (zs.map f) (zs.map g)
  | [], _ => repAll_nil
  | z :: zs, h => repAll_cons (h z List.mem_cons_self) (repAll_zs fun y hy => h y (List.mem_cons_of_mem _ hy))
section
variable {T : List (Addr × Str)} {σ : L2.St} {S : List Addr} {G G' H H' : Hp} {K : PySem.W.Frag} {α β γ δ ε : Type} [DecidableEq α] [Datum α] [DecidableEq β] [Datum β] [DecidableEq γ] [Datum γ]
  {te ta tb tc td : TE} {t u : TT} {v : V} {x : α} {y : β} {b c : Bool} {i j : Int} {n : Nat}
/-! ### builtins of one argument -/
theorem ev_cb1 {r : List V → Hp → VK → Prop} (ha : EvR T ta σ G x) (hr : ∀ v S H1 (Q : VK), Rep (hd S H1) v x → Sg T G S H1 → (∀ w H2, Le T H1 H2 → Rep (hd S H2) w y → Q w H2) → r [v] H1 Q) : EvR T (tCB r (tCons ta tNil)) σ G y := fun S H1 s Q q =>
  ha S H1 s _ fun v H2 e2 r2 => hr v S H2 Q r2 (s.go e2) fun w H3 e3 r3 => q w H3 (e2.trans e3) r3
theorem ev_abs (ha : EvR T ta σ G i) : EvR T (tCB rAbs (tCons ta tNil)) σ G (if i < 0 then -i else i) := ev_cb1 ha fun v S H1 Q h _ q => ⟨i, by rw [of_int h], q _ _ .same rep_int⟩
theorem ev_intI (ha : EvR T ta σ G i) : EvR T (tCB rInt1 (tCons ta tNil)) σ G i := ev_cb1 ha fun v S H1 Q h _ q => .inl ⟨i, by rw [of_int h], q _ _ .same rep_int⟩
theorem ev_intB (ha : EvR T ta σ G b) : EvR T (tCB rInt1 (tCons ta tNil)) σ G (if b then (1 : Int) else 0) := ev_cb1 ha fun v S H1 Q h _ q => .inr ⟨b, by rw [of_bl h], q _ _ .same rep_int⟩
theorem ev_lenL {xs : List α} (ha : EvR T ta σ G xs) : EvR T (tCB (rLenS K) (tCons ta tNil)) σ G (xs.length : Int) := ev_cb1 ha fun v S H1 Q h _ q => by
  obtain ⟨a, vs, rfl, hL, hA⟩ := of_lst h
  exact ⟨a, vs, rfl, .inl (.of (hd_some hL).1), by rw [hA.length]; exact q _ _ .same rep_int⟩
theorem ev_lenT {xs : Tup α} (ha : EvR T ta σ G xs) : EvR T (tCB (rLenS K) (tCons ta tNil)) σ G (xs.items.length : Int) := ev_cb1 ha fun v S H1 Q h _ q => by
  obtain ⟨a, vs, rfl, hL, hA⟩ := of_tup h
  exact ⟨a, vs, rfl, .inr (.inl (hd_rd hL)), by rw [hA.length]; exact q _ _ .same rep_int⟩
theorem ev_sum {xs : List Int} (ha : EvR T ta σ G xs) : EvR T (tCB (rSum K) (tCons ta tNil)) σ G xs.sum := ev_cb1 ha fun v S H1 Q h _ q => by
  obtain ⟨a, vs, rfl, hL, hA⟩ := of_lst h
  exact ⟨a, xs, rfl, by rw [← hA.ints]; exact .of (hd_some hL).1, q _ _ .same rep_int⟩
theorem ev_all {xs : List Bool} (ha : EvR T ta σ G xs) : EvR T (tCB (rAll K) (tCons ta tNil)) σ G (xs.all id) := ev_cb1 ha fun v S H1 Q h _ q => by
  obtain ⟨a, vs, rfl, hL, hA⟩ := of_lst h
  exact ⟨a, xs, rfl, by rw [← hA.bls]; exact .of (hd_some hL).1, q _ _ .same rep_bl⟩
/-- a new list made at once -/
theorem en_new {te : TE} {xs : List α} (h : ∀ S H1, Sg T G S H1 → ∀ Q : VK, (∀ p vs H2, Le T H1 H2 → H2 p = none → RepAll (hd S H2) vs xs → Q (.ref p) (upd H2 p (.lst vs))) → te σ H1 Q) : EvN T te σ G xs := fun S H1 s Q q =>
  h S H1 s Q fun p vs H2 e2 hp r => q p vs _ ((s.go e2).fresh hp) (e2.trans (.new hp)) ((e2.hd s.dom).trans (le_hide_new (s.go e2) hp)) upd_same (r.le (le_hide_new (s.go e2) hp))
theorem en_listL {xs : List α} (ha : EvR T ta σ G xs) : EvN T (tCB (rListS K) (tCons ta tNil)) σ G xs := en_new fun S H1 s Q q => ha S H1 s _ fun v H2 e2 r2 => by
  obtain ⟨a, vs, rfl, hL, hA⟩ := of_lst r2
  exact ⟨a, vs, rfl, .inl (.of (hd_some hL).1), fun l hl => q l vs H2 e2 hl hA⟩
theorem en_listT {xs : Tup α} (ha : EvR T ta σ G xs) : EvN T (tCB (rListS K) (tCons ta tNil)) σ G xs.items := en_new fun S H1 s Q q => ha S H1 s _ fun v H2 e2 r2 => by
  obtain ⟨a, vs, rfl, hL, hA⟩ := of_tup r2
  exact ⟨a, vs, rfl, .inr (.inl (hd_rd hL)), fun l hl => q l vs H2 e2 hl hA⟩
/-- a new tuple made at once -/
theorem ev_newT {xs : List α} (s : Sg T G S H) {Q : VK} (q : ∀ v H2, Le T H H2 → Rep (hd S H2) v (Tup.mk xs) → Q v H2) {p : Addr} {vs : List V} {H2 : Hp} (e2 : Le T H H2) (hp : H2 p = none) (r : RepAll (hd S H2) vs xs) : Q (.ref p) (upd H2 p (.tup vs)) :=
  q _ _ (e2.trans (.new hp)) (rep_tup ((s.go e2).at_new hp) (r.le ((s.go e2).newD hp)))
theorem ev_tupL {xs : List α} (ha : EvR T ta σ G xs) : EvR T (tThen ta (kTup K)) σ G (Tup.mk xs) := fun S H1 s Q q => ha S H1 s _ fun v H2 e2 r2 => by
  obtain ⟨a, vs, rfl, hL, hA⟩ := of_lst r2
  exact .inl ⟨a, vs, rfl, .of (hd_some hL).1, fun p hp => ev_newT s q e2 hp hA⟩
/-! ### ranges laid out -/
theorem rgV_rng (lo hi : Int) : rgV lo hi = (rng lo (hi - lo).toNat).map V.int := by
  unfold rgV rng
  rw [List.map_map]
  rfl
theorem ev_tupRg1 (ha : EvR T ta σ G i) (h1 : -100000 ≤ i) (h2 : i ≤ 100000) : EvR T (tTupRg (tRg1 ta)) σ G (Tup.mk (rng 0 i.toNat)) := fun S H1 s Q q => ha S H1 s _ fun v H2 e2 r2 => ⟨i, of_int r2, ⟨by omega, by omega, by omega, by omega⟩, fun p hp => by
  rw [rgV_rng, Int.sub_zero]
  exact ev_newT s q e2 hp (repAll_ints _)⟩
theorem en_lstRg1 (ha : EvR T ta σ G i) (h1 : -100000 ≤ i) (h2 : i ≤ 100000) : EvN T (tLstRg (tRg1 ta)) σ G (rng 0 i.toNat) := en_new fun S H1 s Q q => ha S H1 s _ fun v H2 e2 r2 => ⟨i, of_int r2, ⟨by omega, by omega, by omega, by omega⟩, fun p hp => by
  rw [rgV_rng, Int.sub_zero]
  exact q p _ H2 e2 hp (repAll_ints _)⟩
theorem en_lstRg2 (ha : EvR T ta σ G i) (hb : EvR T tb σ G j) (h1 : -100000 ≤ i) (h2 : i ≤ 100000) (h3 : -100000 ≤ j) (h4 : j ≤ 100000) : EvN T (tLstRg (tRg2 ta tb)) σ G (rng i (j - i).toNat) := en_new fun S H1 s Q q => ha S H1 s _ fun v H2 e2 r2 => hb S H2 (s.go e2) _ fun v3 H3 e3 r3 =>
  ⟨i, j, of_int r2, of_int r3, ⟨by omega, by omega, by omega, by omega⟩, fun p hp => by
    rw [rgV_rng]
    exact q p _ H3 (e2.trans e3) hp (repAll_ints _)⟩
end
end K4
end
section
set_option Elab.async false
set_option linter.all false
set_option maxRecDepth 100000
set_option maxHeartbeats 4000000
namespace K4
open PySem PySem.Spec PyProof.Rows L2 PySem.W
/-! ### sorting, as plain functions -/
def ins1 (x : Int) : List Int → List Int
  | [] => [x]
  | y :: ys => if x ≤ y then x :: y :: ys else y :: ins1 x ys
def isort : List Int → List Int
  | [] => []
  | x :: xs => ins1 x (isort xs)
theorem ins1_perm (x : Int) : ∀ ys, (ins1 x ys).Perm (x :: ys)
  | [] => .refl _
  | y :: ys => by
    unfold ins1
    split
    · exact .refl _
    · exact ((ins1_perm x ys).cons y).trans (.swap x y ys)
theorem isort_perm : ∀ xs, (isort xs).Perm xs
  | [] => .refl _
  | x :: xs => (ins1_perm x _).trans ((isort_perm xs).cons x)
theorem ins1_sorted (x : Int) : ∀ {ys : List Int}, ys.Pairwise (· ≤ ·) → (ins1 x ys).Pairwise (· ≤ ·)
  | [], _ => List.pairwise_singleton _ _
  | y :: ys, h => by
    unfold ins1
    obtain ⟨h1, h2⟩ := List.pairwise_cons.mp h
    split
    · rename_i hle
      refine List.pairwise_cons.mpr ⟨fun z hz => ?_, h⟩
      rcases List.mem_cons.mp hz with rfl | hz
      · exact hle
      · exact Int.le_trans hle (h1 z hz)
    · rename_i hle
      refine List.pairwise_cons.mpr ⟨fun z hz => ?_, ins1_sorted x h2⟩
      rcases List.mem_cons.mp ((ins1_perm x ys).mem_iff.mp hz) with rfl | hz
      · omega
      · exact h1 z hz
theorem isort_sorted : ∀ xs, (isort xs).Pairwise (· ≤ ·)
  | [] => .nil
  | x :: xs => ins1_sorted x (isort_sorted xs)
theorem isort_uniq {xs ys : List Int} (p : ys.Perm xs) (h : ys.Pairwise (· ≤ ·)) : ys = isort xs :=
  List.Perm.eq_of_pairwise (le := fun a b => a ≤ b) (fun a b _ _ h1 h2 => Int.le_antisymm h1 h2) h (isort_sorted xs) (p.trans (isort_perm xs).symm)
/-- of lists of ints -/
def insL (x : List Int) : List (List Int) → List (List Int)
  | [] => [x]
  | y :: ys => if HT.lexLt y x then y :: insL x ys else x :: y :: ys
def lsort : List (List Int) → List (List Int)
  | [] => []
  | x :: xs => insL x (lsort xs)
theorem insL_perm (x : List Int) : ∀ ys, (insL x ys).Perm (x :: ys)
  | [] => .refl _
  | y :: ys => by
    unfold insL
    split
    · exact ((insL_perm x ys).cons y).trans (.swap x y ys)
    · exact .refl _
theorem lsort_perm : ∀ xs, (lsort xs).Perm xs
  | [] => .refl _
  | x :: xs => (insL_perm x _).trans ((lsort_perm xs).cons x)
abbrev LSorted (xs : List (List Int)) : Prop := xs.Pairwise (fun x y => HT.lexLt y x = false)
theorem insL_sorted (x : List Int) : ∀ {ys : List (List Int)}, LSorted ys → LSorted (insL x ys)
  | [], _ => List.pairwise_singleton _ _
  | y :: ys, h => by
    unfold insL
    obtain ⟨h1, h2⟩ := List.pairwise_cons.mp h
    split
    · rename_i hlt
      refine List.pairwise_cons.mpr ⟨fun z hz => ?_, insL_sorted x h2⟩
      rcases List.mem_cons.mp ((insL_perm x ys).mem_iff.mp hz) with rfl | hz
      · exact NtL.lex_asym _ _ hlt
      · exact h1 z hz
    · rename_i hlt
      have hxy : HT.lexLt y x = false := by
        cases e : HT.lexLt y x with
        | true => exact absurd e hlt
        | false => rfl
      refine List.pairwise_cons.mpr ⟨fun z hz => ?_, h⟩
      rcases List.mem_cons.mp hz with rfl | hz
      · exact hxy
      · exact NtL.lex_tr _ _ _ hxy (h1 z hz)
theorem lsort_sorted : ∀ xs, LSorted (lsort xs)
  | [] => .nil
  | x :: xs => insL_sorted x (lsort_sorted xs)
theorem lex_eq : ∀ xs ys : List Int, HT.lexLt xs ys = false → HT.lexLt ys xs = false → xs = ys
  | [], [], _, _ => rfl
  | [], y :: ys, h, _ => by rw [HT.lexLt_nil_cons] at h; cases h
  | x :: xs, [], _, h => by rw [HT.lexLt_nil_cons] at h; cases h
  | x :: xs, y :: ys, h1, h2 => by
    rw [HT.lexLt_cons] at h1 h2
    by_cases e : x = y
    · subst e
      rw [if_pos rfl] at h1 h2
      rw [lex_eq xs ys h1 h2]
    · rw [if_neg e] at h1
      rw [if_neg fun z => e z.symm] at h2
      have a := of_decide_eq_false h1
      have b := of_decide_eq_false h2
      omega
theorem lsort_uniq {xs ys : List (List Int)} (p : ys.Perm xs) (h : LSorted ys) : ys = lsort xs :=
  List.Perm.eq_of_pairwise (le := fun a b => HT.lexLt b a = false) (fun a b _ _ h1 h2 => lex_eq a b h2 h1) h (lsort_sorted xs) (p.trans (lsort_perm xs).symm)
/-! ### keys and values of dicts -/
class KeyL (α : Type) [DecidableEq α] [Datum α] where
  toK : α → List Int
  inj : ∀ x y, toK x = toK y → x = y
  rep : ∀ (H : Hp) (q : Addr) (x : α), H q = some (.tup ((toK x).map V.int)) → Rep H (.ref q) x
  of : ∀ (H : Hp) (v : V) (x : α), Rep H v x → ∃ q, v = .ref q ∧ H q = some (.tup ((toK x).map V.int))
instance : KeyL (Tup Int) where
  toK x := x.items
  inj x y h := by
    cases x
    cases y
    exact congrArg Tup.mk h
  rep H q x h := rep_tup h (repAll_ints _)
  of H v x h := of_tupI h
instance : KeyL (Int × Int) where
  toK x := [x.1, x.2]
  inj x y h := by
    cases x
    cases y
    simp only [List.cons.injEq] at h
    exact Prod.ext h.1 h.2.1
  rep H q x h := rep_pair (z := x.1) (w := x.2) h rep_int rep_int
  of H v x h := by
    obtain ⟨a, rfl, e⟩ := of_fr h
    exact ⟨a, rfl, e⟩
class AtV (β : Type) [DecidableEq β] [Datum β] where
  vV : β → V
  rep : ∀ (H : Hp) (x : β), Rep H (vV x) x
  of : ∀ (H : Hp) (v : V) (x : β), Rep H v x → v = vV x
instance : AtV Int := ⟨V.int, fun _ _ => rep_int, fun _ _ _ h => of_int h⟩
instance : AtV Bool := ⟨V.bl, fun _ _ => rep_bl, fun _ _ _ h => of_bl h⟩
section
variable {α β : Type} [DecidableEq α] [Datum α] [DecidableEq β] [Datum β] [KeyL α] [AtV β]
abbrev kT (x : α) : List L2.Key := (KeyL.toK x).map Sum.inl
def kE (e : α × β) : List L2.Key × V := (kT e.1, AtV.vV e.2)
def kI (e : Int × β) : L2.Key × V := (Sum.inl e.1, AtV.vV e.2)
theorem kT_inj {x y : α} (h : kT x = kT y) : x = y := KeyL.inj x y (by
  have h' := congrArg (List.map fun k : L2.Key => match k with
    | .inl i => i
    | .inr _ => (0 : Int)) h
  rw [List.map_map, List.map_map] at h'
  have e : ∀ l : List Int, List.map ((fun k : L2.Key => match k with
    | .inl i => i
    | .inr _ => (0 : Int)) ∘ Sum.inl) l = l := fun l => by
    induction l with
    | nil => rfl
    | cons a l ih => rw [List.map_cons, ih] <;> rfl
  rw [e, e] at h'
  exact h')
theorem kT_v (x : α) : (kT x).map kV = (KeyL.toK x).map V.int := by unfold kT; rw [List.map_map]; rfl
end
section
variable {κ β : Type} [DecidableEq κ]
/-- d[k] = v -/
def putD (m : List (κ × β)) (k : κ) (v : β) : List (κ × β) := if (m.any fun e => decide (e.1 = k)) = true then m.map (fun e => if e.1 = k then (e.1, v) else e) else m ++ [(k, v)]
/-- d.get(k) -/
def getD' (m : List (κ × β)) (k : κ) : Option β := (m.find? fun e => decide (e.1 = k)).map (·.2)
theorem putD_len (m : List (κ × β)) (k : κ) (v : β) : (putD m k v).length ≤ m.length + 1 := by
  unfold putD
  split
  · rw [List.length_map]; omega
  · rw [List.length_append, List.length_singleton]; omega
end
section
variable {α β : Type} [DecidableEq α] [Datum α] [DecidableEq β] [Datum β] [KeyL α] [AtV β]
theorem put_kE (m : List (α × β)) (k : α) (v : β) : putK (m.map kE) (kT k) (AtV.vV v) = (putD m k v).map kE := by
  have hany : ((m.map kE).any fun kv => decide (kv.1 = kT k)) = (m.any fun e => decide (e.1 = k)) := by
    rw [List.any_map]
    congr 1
    funext e
    show decide (kT e.1 = kT k) = decide (e.1 = k)
    by_cases q : e.1 = k
    · rw [q]; simp
    · rw [decide_eq_false q, decide_eq_false fun z => q (kT_inj z)]
  unfold putK putD
  rw [hany]
  split
  · rw [List.map_map, List.map_map]
    refine List.map_congr_left fun e _ => ?_
    show (if kT e.1 = kT k then (kT e.1, AtV.vV v) else kE e) = kE (if e.1 = k then (e.1, v) else e)
    by_cases q : e.1 = k
    · rw [if_pos q, if_pos (by rw [q])] <;> rfl
    · rw [if_neg q, if_neg fun z => q (kT_inj z)]
  · rw [List.map_append] <;> rfl
theorem get_kE (m : List (α × β)) (k : α) : valV (m.map kE) (kT k) = (getD' m k).map AtV.vV := by
  unfold valV getD'
  rw [List.find?_map]
  have e : ((fun kv : List L2.Key × V => decide (kv.1 = kT k)) ∘ kE) = (fun e : α × β => decide (e.1 = k)) := by
    funext e
    show decide (kT e.1 = kT k) = decide (e.1 = k)
    by_cases q : e.1 = k
    · rw [q]; simp
    · rw [decide_eq_false q, decide_eq_false fun z => q (kT_inj z)]
  rw [e]
  cases m.find? _ <;> rfl
theorem put_kI (m : List (Int × β)) (k : Int) (v : β) : putK (m.map kI) (Sum.inl k) (AtV.vV v) = (putD m k v).map kI := by
  have hany : ((m.map kI).any fun kv => decide (kv.1 = Sum.inl k)) = (m.any fun e => decide (e.1 = k)) := by
    rw [List.any_map]
    congr 1
    funext e
    show decide ((Sum.inl e.1 : L2.Key) = Sum.inl k) = decide (e.1 = k)
    by_cases q : e.1 = k
    · rw [q]; simp
    · rw [decide_eq_false q, decide_eq_false fun z => q (Sum.inl.inj z)]
  unfold putK putD
  rw [hany]
  split
  · rw [List.map_map, List.map_map]
    refine List.map_congr_left fun e _ => ?_
    show (if (Sum.inl e.1 : L2.Key) = Sum.inl k then (Sum.inl e.1, AtV.vV v) else kI e) = kI (if e.1 = k then (e.1, v) else e)
    by_cases q : e.1 = k
    · rw [if_pos q, if_pos (by rw [q])] <;> rfl
    · rw [if_neg q, if_neg fun z => q (Sum.inl.inj z)]
  · rw [List.map_append] <;> rfl
theorem get_kI (m : List (Int × β)) (k : Int) : valV (m.map kI) (Sum.inl k) = (getD' m k).map AtV.vV := by
  unfold valV getD'
  rw [List.find?_map]
  have e : ((fun kv : L2.Key × V => decide (kv.1 = Sum.inl k)) ∘ kI) = (fun e : Int × β => decide (e.1 = k)) := by
    funext e
    show decide ((Sum.inl e.1 : L2.Key) = Sum.inl k) = decide (e.1 = k)
    by_cases q : e.1 = k
    · rw [q]; simp
    · rw [decide_eq_false q, decide_eq_false fun z => q (Sum.inl.inj z)]
  rw [e]
  cases m.find? _ <;> rfl
/-- the dict at p -/
def IsDT (H : Hp) (p : Addr) (m : List (α × β)) : Prop := H p = some (.dT (m.map kE))
def IsDI (H : Hp) (p : Addr) (m : List (Int × β)) : Prop := H p = some (.dK (m.map kI))
end
section
variable {T : List (Addr × Str)} {σ : L2.St} {S : List Addr} {G G' H H' H1 : Hp} {K : PySem.W.Frag} {α β γ δ ε : Type} [DecidableEq α] [Datum α] [DecidableEq β] [Datum β] [DecidableEq γ] [Datum γ] [KeyL α] [AtV β]
  {te ta tb tc td tk tv : TE} {t u : TT} {v : V} {b c : Bool} {i j : Int} {n : Nat} {p : Addr}
/-! ### dict expressions: a new hidden dict -/
def EvO (T : List (Addr × Str)) (te : TE) (σ : L2.St) (G : Hp) (o : HO) : Prop := ∀ S H1, Sg T G S H1 → ∀ Q : VK, (∀ p H2, p ∉ S → Le T H1 H2 → Le T (hd S H1) (hd (p :: S) H2) → H2 p = some o → Q (.ref p) H2) → te σ H1 Q
theorem q_asgO {i : Nat} {o : HO} {D : Ends} {tz : TS} (s : Sg T G S H) (h : EvO T te σ G o) (k : ∀ p H1, p ∉ S → Le T H H1 → Le T (hd S H) (hd (p :: S) H1) → H1 p = some o → tz D (σ.set i (some (.ref p))) H1) : tSeq (tAsg te (gName i)) tz D σ H := h S H s _ fun p H2 n e e' hp => k p H2 n e e' hp
theorem eo_newK : EvO T tDNewK σ G (.dK []) := fun S H1 s Q q p hp => q p _ (s.fresh hp) (.new hp) (le_hide_new s hp) upd_same
theorem eo_newT : EvO T tDNewT σ G (.dT []) := fun S H1 s Q q p hp => q p _ (s.fresh hp) (.new hp) (le_hide_new s hp) upd_same
/-! tests and reads of a dict that is known -/
theorem Le.at {o : HO} (e : Le T H H') (h : H p = some o) (so : Soft o) : H' p = some o := e.soft h so
theorem Sg.rd {o : HO} (s : Sg T G S H) (h : G p = some o) (so : Soft o) : H p = some o := (hd_some (s.le.soft h so)).1
theorem ev_dinI {m : List (Int × β)} (hk : EvR T tk σ G i) (hn : σ[n]? = some (some (.ref p))) (hm : IsDI G p m) : EvR T (tDIn tk (tVar n)) σ G ((getD' m i).isSome) := fun S H1 s Q q =>
  hk S H1 s _ fun v H2 e2 r2 => ⟨.ref p, hn, p, _, rfl, .inl ⟨_, Sum.inl i, .inl ((s.go e2).rd hm trivial), of_int r2, rfl⟩, by
    rw [get_kI, Option.isSome_map]
    exact q _ H2 e2 rep_bl⟩
theorem ev_dnotinI {m : List (Int × β)} (hk : EvR T tk σ G i) (hn : σ[n]? = some (some (.ref p))) (hm : IsDI G p m) : EvR T (tDNotIn tk (tVar n)) σ G (!(getD' m i).isSome) := fun S H1 s Q q =>
  hk S H1 s _ fun v H2 e2 r2 => ⟨.ref p, hn, p, _, rfl, .inl ⟨_, Sum.inl i, .inl ((s.go e2).rd hm trivial), of_int r2, rfl⟩, by
    rw [get_kI, Option.isSome_map]
    exact q _ H2 e2 rep_bl⟩
theorem KeyL.real {x : α} {v : V} (h : Rep (hd S H) v x) : ∃ q, v = .ref q ∧ H q = some (.tup ((kT x).map kV)) := by
  obtain ⟨q, e, h⟩ := KeyL.of _ _ _ h
  rw [kT_v]
  exact ⟨q, e, (hd_some h).1⟩
theorem ev_dgetT {m : List (α × β)} {x : α} {y : β} (hn : σ[n]? = some (some (.ref p))) (hk : EvR T tk σ G x) (hm : IsDT G p m) (hx : getD' m x = some y) : EvR T (tDGet (tVar n) tk) σ G y := fun S H1 s Q q =>
  ⟨.ref p, hn, hk S H1 s _ fun v H2 e2 r2 => by
    obtain ⟨a, rfl, ha⟩ := KeyL.real r2
    exact ⟨p, AtV.vV y, rfl, .inr ⟨_, kT x, a, .inl ((s.go e2).rd hm trivial), rfl, ha, by rw [get_kE, hx] <;> rfl⟩, q _ H2 e2 (AtV.rep _ _)⟩⟩
theorem ev_dget2T {m : List (α × β)} {x : α} {z : β} (hn : σ[n]? = some (some (.ref p))) (hk : EvR T tk σ G x) (hz : EvR T tc σ G z) (hm : IsDT G p m) : EvR T (tDGet2 (tVar n) tk tc) σ G ((getD' m x).getD z) := fun S H1 s Q q =>
  ⟨.ref p, hn, p, rfl, .inr ⟨_, .inl (s.rd hm trivial)⟩, hk S H1 s _ fun v H2 e2 r2 => hz S H2 (s.go e2) _ fun v3 H3 e3 r3 => by
    obtain ⟨a, rfl, ha⟩ := KeyL.real r2
    refine ⟨_, .inr ⟨_, kT x, a, .inl ((s.go (e2.trans e3)).rd hm trivial), rfl, e3.tup ha, rfl⟩, ?_⟩
    rw [get_kE]
    cases hx : getD' m x with
    | none =>
      rw [hx] at q
      exact q _ H3 (e2.trans e3) r3
    | some y =>
      rw [hx] at q
      exact q _ H3 (e2.trans e3) (AtV.rep _ _)⟩
/-- a known thing is hidden again, changed -/
theorem Sg.put {u o : HO} (dom : Dom S H) (hp : H p = some u) (su : Soft u) (e : Le T H H1) (so : Soft o) : Sg T (hd (p :: S) H) (p :: S) (upd H1 p o) :=
  (Sg.go (T := T) (G := hd (p :: S) H) (S := p :: S) ⟨fun b hb => by
    rcases List.mem_cons.mp hb with rfl | hb
    · exact ⟨u, hp, su⟩
    · exact dom b hb, .same⟩ e).mut List.mem_cons_self so
theorem q_dputI {m : List (Int × β)} {y : β} {D : Ends} {tz : TS} (s : Sg T G S H) (hn : σ[n]? = some (some (.ref p))) (hk : EvR T tk σ G i) (hv : EvR T tv σ G y) (hm : IsDI G p m) (hl : m.length < 100000)
    (k : ∀ H1, Le T H H1 → tz D σ (upd H1 p (.dK ((putD m i y).map kI)))) : tSeq (sDPut (tVar n) tk tv) tz D σ H :=
  hv S H s _ fun v H1 e1 r1 => ⟨.ref p, hn, hk S H1 (s.go e1) _ fun v2 H2 e2 r2 => by
    have e := e1.trans e2
    have hp := (s.go e).rd hm trivial
    refine ⟨p, _, rfl, .inl ⟨_, Sum.inl i, hp, of_int r2, by rw [List.length_map]; exact sz_lt hl, rfl⟩, ?_⟩
    rw [AtV.of _ _ _ r1, put_kI]
    exact k H2 e⟩
theorem q_dputT {m : List (α × β)} {x : α} {y : β} {D : Ends} {tz : TS} (s : Sg T G S H) (hn : σ[n]? = some (some (.ref p))) (hk : EvR T tk σ G x) (hv : EvR T tv σ G y) (hm : IsDT G p m) (hl : m.length < 100000)
    (k : ∀ H1, Le T H H1 → tz D σ (upd H1 p (.dT ((putD m x y).map kE)))) : tSeq (sDPut (tVar n) tk tv) tz D σ H :=
  hv S H s _ fun v H1 e1 r1 => ⟨.ref p, hn, hk S H1 (s.go e1) _ fun v2 H2 e2 r2 => by
    have e := e1.trans e2
    have hp := (s.go e).rd hm trivial
    obtain ⟨a, rfl, ha⟩ := KeyL.real r2
    refine ⟨p, _, rfl, .inr ⟨_, kT x, a, hp, rfl, ha, by rw [List.length_map]; exact sz_lt hl, rfl⟩, ?_⟩
    rw [AtV.of _ _ _ r1, put_kE]
    exact k H2 e⟩
theorem s_dputT {m : List (α × β)} {x : α} {y : β} {D : Ends} (s : Sg T G S H) (hn : σ[n]? = some (some (.ref p))) (hk : EvR T tk σ G x) (hv : EvR T tv σ G y) (hm : IsDT G p m) (hl : m.length < 100000)
    (k : ∀ H1, Le T H H1 → D.nx σ (upd H1 p (.dT ((putD m x y).map kE)))) : sDPut (tVar n) tk tv D σ H := q_dputT (tz := fun D σ H => D.nx σ H) (D := D) s hn hk hv hm hl k
theorem ev_lenDT {m : List (α × β)} (hn : σ[n]? = some (some (.ref p))) (hm : IsDT G p m) : EvR T (tCB rLenT (tCons (tVar n) tNil)) σ G (m.length : Int) := fun S H1 s Q q =>
  ⟨.ref p, hn, p, _, rfl, s.rd hm trivial, by rw [List.length_map]; exact q _ H1 .same rep_int⟩
theorem isKeys_rep {m : List (α × β)} {bs : List Addr} (h : IsKeys H (m.map kE) bs) (s : Sg T G S H) : RepAll (hd S H) (bs.map V.ref) (m.map (·.1)) := by
  have : ∀ {m : List (α × β)} {bs : List Addr}, IsKeys H (m.map kE) bs → RepAll (hd S H) (bs.map V.ref) (m.map (·.1)) := by
    intro m
    induction m with
    | nil =>
      intro bs h
      cases h
      exact repAll_nil
    | cons e m ih =>
      intro bs h
      cases h with
      | cons h1 h2 =>
        have h1' : H _ = some (.tup ((kT e.1).map kV)) := h1
        rw [kT_v] at h1'
        exact repAll_cons (KeyL.rep _ _ _ (by rw [hd_out (s.tup h1')]; exact h1')) (ih h2)
  exact this h
theorem en_listDT {m : List (α × β)} (hn : σ[n]? = some (some (.ref p))) (hm : IsDT G p m) : EvN T (tCB rListDT (tCons (tVar n) tNil)) σ G (m.map (·.1)) := en_new fun S H1 s Q q =>
  ⟨.ref p, hn, p, _, rfl, .inl (s.rd hm trivial), fun l bs hl hk => q l _ H1 .same hl (isKeys_rep hk s)⟩
/-! ### sorted -/
theorem en_sortI {xs : List Int} (ha : EvR T ta σ G xs) : EvN T (tCB (rSortedI K) (tCons ta tNil)) σ G (isort xs) := en_new fun S H1 s Q q => ha S H1 s _ fun v H2 e2 r2 => by
  obtain ⟨a, vs, rfl, hL, hA⟩ := of_lst r2
  exact ⟨a, xs, rfl, by rw [← hA.ints]; exact .of (hd_some hL).1, fun ns l hp hs hl => by
    rw [isort_uniq hp hs]
    exact q l _ H2 e2 hl (repAll_ints _)⟩
theorem en_sortDI {m : List (Int × β)} (ha : EvO T ta σ G (.dK (m.map kI))) (hl : m.length < 64) : EvN T (tCB rSortDI (tCons ta tNil)) σ G (isort (m.map (·.1))) := fun S H1 s Q q => ha S H1 s _ fun p H2 np e2 le2 hp => by
  refine ⟨p, _, m.map (·.1), rfl, .inl hp, ?_, by rw [List.length_map]; exact hl, fun ys l hperm hs hl => ?_⟩
  · rw [List.map_map, List.map_map] <;> rfl
  · rw [isort_uniq hperm hs]
    have s2 := s.go e2
    refine q l _ _ (s2.fresh hl) (e2.trans (.new hl)) ((e2.hd s.dom).trans (le_hide_new s2 hl)) upd_same (repAll_ints _)
theorem en_sortDT {m : List (Tup Int × β)} (hn : σ[n]? = some (some (.ref p))) (hm : IsDT G p m) (hl : m.length ≤ 100000) : EvN T (tCB rSortDT (tCons (tVar n) tNil)) σ G ((lsort (m.map fun e => e.1.items)).map Tup.mk) := en_new fun S H1 s Q q =>
  ⟨.ref p, hn, p, m.map kE, m.map fun e => e.1.items, rfl, .inl (s.rd hm trivial), by rw [List.map_map, List.map_map] <;> rfl, by rw [List.length_map]; exact hl, fun l zs hperm hs hk hl => by
    have e := lsort_uniq hperm hs
    refine q l _ H1 .same hl ?_
    rw [← e, List.map_map]
    refine repAll_zs fun z hz => ?_
    have h1 := hk z hz
    exact rep_tup (by rw [hd_out (s.tup h1)]; exact h1) (repAll_ints _)⟩
end
end K4
end
section
set_option Elab.async false
set_option linter.all false
set_option maxRecDepth 100000
set_option maxHeartbeats 4000000
namespace K4
open PySem PySem.Spec PyProof.Rows L2 PySem.W
section
variable {T : List (Addr × Str)} {σ : L2.St} {S : List Addr} {G G' H H' H1 : Hp} {K : PySem.W.Frag} {α β γ δ ε : Type} [DecidableEq α] [Datum α] [DecidableEq β] [Datum β] [DecidableEq γ] [Datum γ] [KeyL α] [AtV β]
  {te ta tb tc td tk tv : TE} {t u : TT} {v : V} {b c : Bool} {i j : Int} {n : Nat} {p : Addr}
/-! ### a dict locked and walked -/
theorem kE_at {m : List (α × β)} {i : Nat} {k : List L2.Key} {w : V} {e : α × β} (h : (m.map kE)[i]? = some (k, w)) (he : m[i]? = some e) : k = kT e.1 ∧ w = AtV.vV e.2 := by
  rw [List.getElem?_map, he] at h
  have := Option.some.inj h
  exact ⟨(congrArg Prod.fst this).symm, (congrArg Prod.snd this).symm⟩
theorem sr_keysT {m : List (α × β)} {o : Obj} (hn : σ[n]? = some (some (.ref p))) (hm : G p = some (.frz o (.dT (m.map kE)))) : Src T (iKeys (tVar n)) σ G (m.map (·.1)) := fun S H1 s R q => by
  have hp := s.rd hm trivial
  have hpn := (hd_some (s.le.soft hm trivial)).2
  refine ⟨.ref p, hn, p, o, rfl, .inr ⟨_, hp, q _ H1 .same fun S' H3 s3 i => ⟨fun x hx => ?_, fun hi => ?_⟩⟩⟩
  · have hg : hd S H1 p = some (.frz o (.dT (m.map kE))) := by rw [hd_out hpn]; exact hp
    have h3 := s3.rd hg trivial
    rw [List.getElem?_map] at hx
    cases he : m[i]? with
    | none => rw [he] at hx; cases hx
    | some e =>
      rw [he] at hx
      cases hx
      have hlt := (List.getElem?_eq_some_iff.mp he).1
      refine ⟨⟨h3, by rw [List.length_map]; exact hlt⟩, fun v H' y => ?_⟩
      obtain ⟨rfl, k, w, q', hkv, rfl, hq⟩ := y
      obtain ⟨rfl, _⟩ := kE_at hkv he
      rw [kT_v] at hq
      exact ⟨.same, KeyL.rep _ _ _ (by rw [hd_out (s3.tup hq)]; exact hq)⟩
  · have hg : hd S H1 p = some (.frz o (.dT (m.map kE))) := by rw [hd_out hpn]; exact hp
    exact ⟨s3.rd hg trivial, by rw [List.length_map] at hi ⊢; exact hi⟩
theorem sr_valsT {m : List (α × β)} {o : Obj} (hn : σ[n]? = some (some (.ref p))) (hm : G p = some (.frz o (.dT (m.map kE)))) : Src T (iValsT (tVar n)) σ G (m.map (·.2)) := fun S H1 s R q => by
  have hp := s.rd hm trivial
  have hpn := (hd_some (s.le.soft hm trivial)).2
  have hg : hd S H1 p = some (.frz o (.dT (m.map kE))) := by rw [hd_out hpn]; exact hp
  refine ⟨.ref p, hn, p, o, _, rfl, hp, q _ H1 .same fun S' H3 s3 i => ⟨fun x hx => ?_, fun hi => ⟨s3.rd hg trivial, by rw [List.length_map] at hi ⊢; exact hi⟩⟩⟩
  have h3 := s3.rd hg trivial
  rw [List.getElem?_map] at hx
  cases he : m[i]? with
  | none => rw [he] at hx; cases hx
  | some e =>
    rw [he] at hx
    cases hx
    have hlt := (List.getElem?_eq_some_iff.mp he).1
    refine ⟨⟨h3, by rw [List.length_map]; exact hlt⟩, fun v H' y => ?_⟩
    obtain ⟨rfl, k, hkv⟩ := y
    obtain ⟨_, rfl⟩ := kE_at hkv he
    exact ⟨.same, AtV.rep _ _⟩
theorem sr_itemsT {m : List (α × β)} {o : Obj} (hn : σ[n]? = some (some (.ref p))) (hm : G p = some (.frz o (.dT (m.map kE)))) : Src T (iItemsT (tVar n)) σ G m := fun S H1 s R q => by
  have hp := s.rd hm trivial
  have hpn := (hd_some (s.le.soft hm trivial)).2
  have hg : hd S H1 p = some (.frz o (.dT (m.map kE))) := by rw [hd_out hpn]; exact hp
  refine ⟨.ref p, hn, p, o, _, rfl, hp, q _ H1 .same fun S' H3 s3 i => ⟨fun x hx => ?_, fun hi => ⟨s3.rd hg trivial, by rw [List.length_map]; exact hi⟩⟩⟩
  have h3 := s3.rd hg trivial
  have hlt := (List.getElem?_eq_some_iff.mp hx).1
  refine ⟨⟨h3, by rw [List.length_map]; exact hlt⟩, fun v H' y => ?_⟩
  obtain ⟨T', k, w, q', hkv, hq, rfl, hT, rfl⟩ := y
  obtain ⟨rfl, rfl⟩ := kE_at hkv hx
  rw [kT_v] at hq
  refine ⟨.new hT, rep_pair (z := x.1) (w := x.2) (s3.at_new hT) ?_ (AtV.rep _ _)⟩
  exact (KeyL.rep (hd S' H3) q' x.1 (by rw [hd_out (s3.tup hq)]; exact hq)).le (s3.newD hT)
/-- the heap in which a dict is locked -/
theorem Le.unlock {o : Obj} {u : HO} (hp : H p = some u) (su : Soft u) (e : Le T (upd H p (.frz o u)) H') : Le T H (upd H' p u) := by
  have hp' : H' p = some (.frz o u) := e.soft upd_same su
  refine ⟨fun b w hb n => ?_, fun t => ?_⟩
  · by_cases z : b = p
    · rw [z, hp] at hb
      cases hb
      rw [z, upd_same]
    · rw [upd_ne z]
      exact e.ext b w (by rw [upd_ne z]; exact hb) n
  · have t1 : LamX.Tabs T (upd H p (.frz o u)) := fun q hq => by
      obtain ⟨ps, h1, h2, h3⟩ := t q hq
      have n1 : q.1 ≠ p := fun z => by
        rw [z, hp] at h1
        cases h1
        exact su
      refine ⟨ps, by rw [upd_ne n1]; exact h1, h2, fun pos cv hc => ?_⟩
      obtain ⟨c, e1, e2⟩ := h3 pos cv hc
      have n2 : c ≠ p := fun z => by
        rw [z, hp] at e2
        cases e2
        exact su
      exact ⟨c, e1, by rw [upd_ne n2]; exact e2⟩
    have t2 := e.tab t1
    intro q hq
    obtain ⟨ps, h1, h2, h3⟩ := t2 q hq
    have n1 : q.1 ≠ p := fun z => by
      rw [z, hp'] at h1
      cases h1
    refine ⟨ps, by rw [upd_ne n1]; exact h1, h2, fun pos cv hc => ?_⟩
    obtain ⟨c, e1, e2⟩ := h3 pos cv hc
    have n2 : c ≠ p := fun z => by
      rw [z, hp'] at e2
      cases e2
    exact ⟨c, e1, by rw [upd_ne n2]; exact e2⟩
/-- what is known but the locked one -/
theorem hd_lock {u w : HO} : hd (p :: S) (upd H p w) = hd (p :: S) H := hd_upd List.mem_cons_self
theorem dom_lock {o : Obj} {u : HO} (dom : Dom S H) (hp : H p = some u) (np : p ∉ S) : Dom S (upd H p (.frz o u)) := fun b hb => by
  have n : b ≠ p := fun z => np (by rw [← z]; exact hb)
  rw [upd_ne n]
  exact dom b hb
/-- the known things with the dict locked -/
theorem le_lock {w : HO} (np : p ∉ S) : Le T (hd (p :: S) H) (hd S (upd H p w)) := .of fun b u e => by
  obtain ⟨e1, e2⟩ := hd_some e
  have n : b ≠ p := fun z => e2 (by rw [z]; exact List.mem_cons_self)
  rw [hd_out fun m => e2 (List.mem_cons_of_mem _ m), upd_ne n]
  exact e1
theorem eo_lock {t : TE} {u o : HO} (so : Soft o) (mu : Mut (some u)) (su : Soft u) (hm : G p = some u) (h : ∀ od S H1, Sg T G S H1 → EvO T t σ (hd S (upd H1 p (.frz od u))) o) : EvO T (tLockE t) σ G o := fun S H1 s Q q => by
  have hp := s.rd hm su
  have np := (hd_some (s.le.soft hm su)).2
  refine ⟨p, u, hp, mu, fun od => ?_⟩
  refine h od S H1 s S _ ⟨dom_lock s.dom hp np, .same⟩ _ fun p2 H2 n2 e2 le2 hp2 => ?_
  have hp' : H2 p = some (.frz od u) := e2.soft upd_same su
  have ne : p2 ≠ p := fun z => by
    have : hd S (upd H1 p (.frz od u)) p = some (.frz od u) := by rw [hd_out np, upd_same]
    have := le2.soft this su
    rw [hd_in (by rw [z]; exact List.mem_cons_self)] at this
    cases this
  have eL : Le T H1 (upd H2 p u) := Le.unlock hp su e2
  refine ⟨hp', q p2 _ n2 eL ?_ (by rw [upd_ne ne]; exact hp2)⟩
  have h3 := eL.hd s.dom
  refine ⟨fun b w hb n => ?_, fun t => ?_⟩
  · by_cases z : b = p
    · rw [z] at hb ⊢
      obtain ⟨e1, e3⟩ := hd_some hb
      rw [hp] at e1
      cases e1
      rw [hd_out (by simp [ne.symm, np]), upd_same]
    · have hb' : hd S (upd H1 p (.frz od u)) b = some w := by
        obtain ⟨e1, e3⟩ := hd_some hb
        rw [hd_out e3, upd_ne z]
        exact e1
      obtain ⟨e1, e3⟩ := hd_some (le2.ext b w hb' n)
      rw [hd_out e3, upd_ne z]
      exact e1
  · have t2 := h3.tab t
    refine fun q hq => ?_
    obtain ⟨ps, h1, h2, h3⟩ := t2 q hq
    have key : ∀ b w, hd S (upd H2 p u) b = some w → b ≠ p2 → hd (p2 :: S) (upd H2 p u) b = some w := fun b w e n => by
      obtain ⟨e1, e3⟩ := hd_some e
      rw [hd_out (by simp [n, e3])]
      exact e1
    have hz : ∀ {w : HO}, hd S (upd H2 p u) p2 = some w → Soft w := fun {w} e => by
      obtain ⟨e1, _⟩ := hd_some e
      rw [upd_ne ne, hp2] at e1
      cases e1
      exact so
    refine ⟨ps, key _ _ h1 fun z => (hz (by rw [← z]; exact h1)).tbl, h2, fun pos cv hc => ?_⟩
    obtain ⟨c, e1, e2⟩ := h3 pos cv hc
    exact ⟨c, e1, key _ _ e2 fun z => by
      have h4 := hz (by rw [← z]; exact e2)
      exact h4⟩
/-! ### statements that walk -/
theorem s_forS {wi : L2.TI} {g : TG} {tu : TS} {D : Ends} {xs : List γ} (s : Sg T G S H) (h : Src T wi σ G xs) (Pv : Hp → Nat → L2.St → Hp → Prop) (h0 : ∀ H1, Le T H H1 → Pv H1 0 σ H1) (hl : ∀ H1 i σ' H', Pv H1 i σ' H' → ∃ S', Sg T (hd S H1) S' H')
    (hs : ∀ H1 i x v σ' H' H'', Le T H H1 → xs[i]? = some x → Pv H1 i σ' H' → Le T H' H'' → (∀ S', Sg T (hd S H1) S' H' → Rep (hd S' H'') v x) → g v σ' H'' fun σ2 H2 => tu { D with nx := Pv H1 (i + 1), ct := Pv H1 (i + 1), bk := D.nx } σ2 H2) (hd' : ∀ H1 σ' H', Le T H H1 → Pv H1 xs.length σ' H' → D.nx σ' H') : tFor wi g tu D σ H :=
  h S H s _ fun J H1 e wk => by
    refine ⟨fun i m σ' H' => m = xs.length - i ∧ i ≤ xs.length ∧ Pv H1 i σ' H', ⟨xs.length, by omega, Nat.zero_le _, h0 H1 e⟩, ?_⟩
    rintro i m σ' H' ⟨rfl, hi, p⟩
    obtain ⟨S', s'⟩ := hl H1 i σ' H' p
    have w := wk S' H' s' i
    by_cases hlt : i < xs.length
    · obtain ⟨x, hx⟩ : ∃ x, xs[i]? = some x := ⟨xs[i], List.getElem?_eq_getElem hlt⟩
      obtain ⟨go, hy⟩ := w.1 x hx
      refine .inr ⟨go, Pv H1 (i + 1), fun σ2 H2 q => ⟨xs.length - (i + 1), by omega, rfl, hlt, q⟩, fun v H'' y => ?_⟩
      obtain ⟨e2, _⟩ := hy v H'' y
      exact hs H1 i x v σ' H' H'' e hx p e2 fun S2 s2 => (((wk S2 H' s2 i).1 x hx).2 v H'' y).2
    · have e2 : i = xs.length := by omega
      subst e2
      exact .inl ⟨w.2 (Nat.le_refl _), hd' H1 σ' H' e p⟩
/-- a statement under lock; all ends fall behind it -/
theorem q_lockS {t tz : TS} {u : HO} {D : Ends} (s : Sg T G S H) (mu : Mut (some u)) (su : Soft u) (hm : G p = some u) (k : ∀ od, t ⟨fun σ' H' => H' p = some (.frz od u) ∧ tz D σ' (upd H' p u), fun v H' => H' p = some (.frz od u) ∧ D.rt v (upd H' p u), fun σ' H' => H' p = some (.frz od u) ∧ D.bk σ' (upd H' p u), fun σ' H' => H' p = some (.frz od u) ∧ D.ct σ' (upd H' p u)⟩ σ (upd H p (.frz od u))) :
    tSeq (tLock t) tz D σ H := ⟨p, u, s.rd hm su, mu, k⟩
/-! ### dict comprehensions -/
theorem eo_dcI {wi : L2.TI} {g : TG} {tt : TT} {vs : List Nat} {xs : List γ} {f : γ → Int} {w : γ → β} (hsrc : Src T wi σ G xs) (gm : Tgm g) (hz : xs.length ≤ 90000)
    (he : ∀ x, x ∈ xs → ∀ v S H, Sg T G S H → Rep (hd S H) v x → g v (wipe σ vs) H fun σ2 H2 => H2 = H ∧ wipe σ2 vs = wipe σ vs ∧ EvT T tt σ2 (hd S H) true ∧ EvR T tk σ2 (hd S H) (f x) ∧ EvR T tv σ2 (hd S H) (w x)) : EvO T (tDc wi g tt tk tv vs) σ G (.dK ((xs.foldl (fun m x => putD m (f x) (w x)) []).map kI)) := fun S H1 s Q q =>
  hsrc S H1 s _ fun J H2 e2 wk D hD => by
    have s2 := s.go e2
    have s0 : Sg T (hd S H2) (D :: S) (upd H2 D (.dK [])) := s2.up.hide hD trivial
    refine ⟨fun i m H' => m = xs.length - i ∧ i ≤ xs.length ∧ Le T H2 H' ∧ Sg T (hd S H2) (D :: S) H' ∧ ∃ ks : List (Int × β), H' D = some (.dK (ks.map kI)) ∧ ks = (xs.take i).foldl (fun m x => putD m (f x) (w x)) [] ∧ ks.length ≤ i,
      ⟨xs.length, by omega, Nat.zero_le _, .new hD, s0, [], upd_same, rfl, Nat.le_refl _⟩, fun i m H' hw => ?_⟩
    obtain ⟨rfl, hi, e', s', ks, hks, hfs, hlen⟩ := hw
    have wk' := wk (D :: S) H' s' i
    by_cases hlt : i < xs.length
    · obtain ⟨x, hx⟩ : ∃ x, xs[i]? = some x := ⟨xs[i], List.getElem?_eq_getElem hlt⟩
      obtain ⟨hgo, hy⟩ := wk'.1 x hx
      refine .inr ⟨hgo, fun H'' => Le T H2 H'' ∧ Sg T (hd S H2) (D :: S) H'' ∧ ∃ ks : List (Int × β), H'' D = some (.dK (ks.map kI)) ∧ ks = (xs.take (i + 1)).foldl (fun m x => putD m (f x) (w x)) [] ∧ ks.length ≤ i + 1, fun H'' hn => ⟨xs.length - (i + 1), by omega, rfl, hlt, hn⟩, fun v H'' y => ?_⟩
      obtain ⟨e3, r3⟩ := hy v H'' y
      have s3 := s'.go e3
      have sG : Sg T G (D :: S) H'' := s3.down s2.le
      have ht : xs.take (i + 1) = xs.take i ++ [x] := by rw [List.take_add_one, hx] <;> rfl
      refine gm _ _ _ _ _ (fun σ2 H4 hq => ?_) (he x (List.mem_of_getElem? hx) v (D :: S) H'' sG r3)
      obtain ⟨rfl, hw2, hT, hK, hV⟩ := hq
      refine ⟨hw2, hT (D :: S) H4 s3.up _ fun H5 e5 => ?_⟩
      show tk σ2 H5 _
      refine hK (D :: S) H5 (s3.to e5) _ fun v6 H6 e6 r6 => hV (D :: S) H6 ((s3.to e5).go e6) _ fun v7 H7 e7 r7 => ?_
      have eA := ((e3.trans e5).trans e6).trans e7
      have d7 : H7 D = some (.dK (ks.map kI)) := (((e5.trans e6).trans e7)).dK (e3.dK hks)
      refine ⟨ks.map kI, Sum.inl (f x), of_int r6, d7, by rw [List.length_map]; exact sz_lt (by omega), Le.mut (e'.trans eA) hD d7 trivial, (s'.go eA).mut List.mem_cons_self trivial, putD ks (f x) (w x), ?_, ?_, ?_⟩
      · rw [upd_same, AtV.of _ _ _ r7, put_kI]
      · rw [ht, List.foldl_append, ← hfs]
        rfl
      · have := putD_len ks (f x) (w x)
        omega
    · have hi' : i = xs.length := by omega
      refine .inl ⟨wk'.2 (by omega), ?_⟩
      rw [hi', List.take_length] at hfs
      exact q D H' (s2.fresh hD) (e2.trans e') ((e2.hd s.dom).trans s'.le) (by rw [← hfs]; exact hks)
theorem eo_dcT {wi : L2.TI} {g : TG} {tt : TT} {vs : List Nat} {xs : List γ} {p : γ → Bool} {f : γ → α} {w : γ → β} (hsrc : Src T wi σ G xs) (gm : Tgm g) (hz : xs.length ≤ 90000)
    (he : ∀ x, x ∈ xs → ∀ v S H, Sg T G S H → Rep (hd S H) v x → g v (wipe σ vs) H fun σ2 H2 => H2 = H ∧ wipe σ2 vs = wipe σ vs ∧ EvT T tt σ2 (hd S H) (p x) ∧ (p x = true → EvR T tk σ2 (hd S H) (f x) ∧ EvR T tv σ2 (hd S H) (w x))) : EvO T (tDcT wi g tt tk tv vs) σ G (.dT (((xs.filter p).foldl (fun m x => putD m (f x) (w x)) []).map kE)) := fun S H1 s Q q =>
  hsrc S H1 s _ fun J H2 e2 wk D hD => by
    have s2 := s.go e2
    have s0 : Sg T (hd S H2) (D :: S) (upd H2 D (.dT [])) := s2.up.hide hD trivial
    refine ⟨fun i m H' => m = xs.length - i ∧ i ≤ xs.length ∧ Le T H2 H' ∧ Sg T (hd S H2) (D :: S) H' ∧ ∃ ks : List (α × β), H' D = some (.dT (ks.map kE)) ∧ ks = ((xs.take i).filter p).foldl (fun m x => putD m (f x) (w x)) [] ∧ ks.length ≤ i,
      ⟨xs.length, by omega, Nat.zero_le _, .new hD, s0, [], upd_same, rfl, Nat.le_refl _⟩, fun i m H' hw => ?_⟩
    obtain ⟨rfl, hi, e', s', ks, hks, hfs, hlen⟩ := hw
    have wk' := wk (D :: S) H' s' i
    by_cases hlt : i < xs.length
    · obtain ⟨x, hx⟩ : ∃ x, xs[i]? = some x := ⟨xs[i], List.getElem?_eq_getElem hlt⟩
      obtain ⟨hgo, hy⟩ := wk'.1 x hx
      refine .inr ⟨hgo, fun H'' => Le T H2 H'' ∧ Sg T (hd S H2) (D :: S) H'' ∧ ∃ ks : List (α × β), H'' D = some (.dT (ks.map kE)) ∧ ks = ((xs.take (i + 1)).filter p).foldl (fun m x => putD m (f x) (w x)) [] ∧ ks.length ≤ i + 1, fun H'' hn => ⟨xs.length - (i + 1), by omega, rfl, hlt, hn⟩, fun v H'' y => ?_⟩
      obtain ⟨e3, r3⟩ := hy v H'' y
      have s3 := s'.go e3
      have sG : Sg T G (D :: S) H'' := s3.down s2.le
      have ht : xs.take (i + 1) = xs.take i ++ [x] := by rw [List.take_add_one, hx] <;> rfl
      refine gm _ _ _ _ _ (fun σ2 H4 hq => ?_) (he x (List.mem_of_getElem? hx) v (D :: S) H'' sG r3)
      obtain ⟨rfl, hw2, hT, hKV⟩ := hq
      refine ⟨hw2, hT (D :: S) H4 s3.up _ fun H5 e5 => ?_⟩
      cases hp : p x with
      | true =>
        obtain ⟨hK, hV⟩ := hKV hp
        show tk σ2 H5 _
        refine hK (D :: S) H5 (s3.to e5) _ fun v6 H6 e6 r6 => hV (D :: S) H6 ((s3.to e5).go e6) _ fun v7 H7 e7 r7 => ?_
        have eA := ((e3.trans e5).trans e6).trans e7
        have d7 : H7 D = some (.dT (ks.map kE)) := (((e5.trans e6).trans e7)).dT (e3.dT hks)
        obtain ⟨a, rfl, ha⟩ := KeyL.real r6
        refine ⟨ks.map kE, kT (f x), a, rfl, e7.tup ha, d7, by rw [List.length_map]; exact sz_lt (by omega), Le.mut (e'.trans eA) hD d7 trivial, (s'.go eA).mut List.mem_cons_self trivial, putD ks (f x) (w x), ?_, ?_, ?_⟩
        · rw [upd_same, AtV.of _ _ _ r7, put_kE]
        · have fx : [x].filter p = [x] := by simp [hp]
          rw [ht, List.filter_append, fx, List.foldl_append, ← hfs]
          rfl
        · have := putD_len ks (f x) (w x)
          omega
      | false =>
        show _ ∧ _
        have eA := e3.trans e5
        have fx : [x].filter p = [] := by simp [hp]
        refine ⟨e'.trans eA, s'.go eA, ks, eA.dT hks, ?_, by omega⟩
        rw [ht, List.filter_append, fx, List.append_nil]
        exact hfs
    · have hi' : i = xs.length := by omega
      refine .inl ⟨wk'.2 (by omega), ?_⟩
      rw [hi', List.take_length] at hfs
      exact q D H' (s2.fresh hD) (e2.trans e') ((e2.hd s.dom).trans s'.le) (by rw [← hfs]; exact hks)
/-- {k: v} -/
theorem eo_dispT {x : α} {y : β} (hk : EvR T tk σ G x) (hv : EvR T tv σ G y) : EvO T (tDispT tk tv) σ G (.dT ([(x, y)].map kE)) := fun S H1 s Q q p hp => by
  have s0 : Sg T G (p :: S) (upd H1 p (.dT [])) := s.hide hp trivial
  refine hk (p :: S) _ s0 _ fun v H2 e2 r2 => hv (p :: S) H2 (s0.go e2) _ fun w H3 e3 r3 => ?_
  obtain ⟨a, rfl, ha⟩ := KeyL.real r2
  have e := e2.trans e3
  have d3 : H3 p = some (.dT []) := e.dT upd_same
  have s3 := s0.go e
  refine ⟨a, kT x, rfl, e3.tup ha, d3, q p _ (s.fresh hp) (Le.mut ((Le.new hp).trans e) hp d3 trivial) ?_ ?_⟩
  · rw [hd_upd List.mem_cons_self]
    exact (le_hide_new s hp).trans (e.hd s0.dom)
  · rw [upd_same, AtV.of _ _ _ r3] <;> rfl
end
end K4
end
section
set_option Elab.async false
set_option linter.all false
set_option maxRecDepth 100000
set_option maxHeartbeats 4000000
namespace K4
open PySem PySem.Spec PyProof.Rows L2 PySem.W
section
variable {T : List (Addr × Str)} {σ : L2.St} {S : List Addr} {G G' H H' H1 : Hp} {K : PySem.W.Frag} {α β γ δ ε : Type} [DecidableEq α] [Datum α] [DecidableEq β] [Datum β] [DecidableEq γ] [Datum γ]
  {te ta tb tc td tk tv : TE} {t u : TT} {v : V} {b c : Bool} {i j : Int} {n : Nat} {p : Addr} {x : α}
/-! ### lists -/
theorem en_new2 {r : R2} {xs : List γ} {x : α} {y : β} (ha : EvR T ta σ G x) (hb : EvR T tb σ G y) (hr : ∀ v u S H1 (Q : VK), Rep (hd S H1) v x → Rep (hd S H1) u y → Sg T G S H1 → (∀ p vs, H1 p = none → RepAll (hd S H1) vs xs → Q (.ref p) (upd H1 p (.lst vs))) → r v u H1 Q) : EvN T (tOp r ta tb) σ G xs := en_new fun S H1 s Q q =>
  ha S H1 s _ fun v H2 e2 r2 => hb S H2 (s.go e2) _ fun u H3 e3 r3 => hr v u S H3 Q (r2.le (e3.hd (s.go e2).dom)) r3 (s.go (e2.trans e3)) fun p vs hp r => q p vs H3 (e2.trans e3) hp r
theorem en_cat {xs ys : List α} (ha : EvR T ta σ G xs) (hb : EvR T tb σ G ys) (hz : xs.length + ys.length ≤ 100000) : EvN T (tOp rCat ta tb) σ G (xs ++ ys) :=
  en_new2 ha hb fun v u S H1 Q h1 h2 s q => by
    obtain ⟨a, vs, rfl, hL, hA⟩ := of_lst h1
    obtain ⟨b, us, rfl, hM, hB⟩ := of_lst h2
    exact ⟨a, b, vs, us, rfl, rfl, (hd_some hL).1, (hd_some hM).1, sz_of (by rw [hA.length, hB.length]; exact hz), fun p hp => q p _ hp (hA.append hB)⟩
theorem repAll_rep {vs : List V} {xs : List α} (h : RepAll H vs xs) : ∀ n : Nat, RepAll H (List.replicate n vs).flatten (List.replicate n xs).flatten
  | 0 => repAll_nil
  | n + 1 => by
    rw [List.replicate_succ, List.replicate_succ, List.flatten_cons, List.flatten_cons]
    exact h.append (repAll_rep h n)
theorem en_rep {xs : List α} (ha : EvR T ta σ G xs) (hb : EvR T tb σ G i) (h1 : -1000 ≤ i) (h2 : i ≤ 1000) (hz : xs.length ≤ 100) : EvN T (tOp rRep ta tb) σ G (List.replicate i.toNat xs).flatten :=
  en_new2 ha hb fun v u S H1 Q r1 r2 s q => by
    obtain ⟨a, vs, rfl, hL, hA⟩ := of_lst r1
    refine ⟨a, i, vs, rfl, of_int r2, (hd_some hL).1, by omega, by omega, sz_of ?_, fun p hp => q p _ hp (repAll_rep hA _)⟩
    rw [hA.length]
    have := Nat.mul_le_mul hz (show i.toNat ≤ 1000 by omega)
    omega
/-- a slice -/
def cut (xs : List α) (lo hi : Option Int) : List α := (xs.drop (HT.sIx xs.length 0 lo)).take (HT.sIx xs.length xs.length hi - HT.sIx xs.length 0 lo)
theorem repAll_cut {vs : List V} {xs : List α} {lo hi : Option Int} (h : RepAll H vs xs) : RepAll H (cutV vs lo hi) (cut xs lo hi) := by
  unfold cutV cut
  rw [h.length]
  exact (h.drop _).take _
def EvP (T : List (Addr × Str)) (to : TO) (σ : L2.St) (G : Hp) (o : Option Int) : Prop := ∀ S H1, Sg T G S H1 → ∀ Q : Option Int → Hp → Prop, (∀ H2, Le T H1 H2 → Q o H2) → to σ H1 Q
theorem ep_none : EvP T tNoPart σ G none := fun S H1 s Q q => q H1 .same
theorem ep_some (h : EvR T ta σ G i) : EvP T (tPart ta) σ G (some i) := fun S H1 s Q q => h S H1 s _ fun v H2 e2 r2 => ⟨i, of_int r2, q H2 e2⟩
theorem en_slL {xs : List α} {tl th : TO} {lo hi : Option Int} (ha : EvR T ta σ G xs) (hl : EvP T tl σ G lo) (hh : EvP T th σ G hi) : EvN T (tSl (rSlL K) ta tl th) σ G (cut xs lo hi) := en_new fun S H1 s Q q =>
  ha S H1 s _ fun v H2 e2 r2 => hl S H2 (s.go e2) _ fun H3 e3 => hh S H3 (s.go (e2.trans e3)) _ fun H4 e4 => by
    have r4 := r2.le ((e3.trans e4).hd (s.go e2).dom)
    obtain ⟨a, vs, rfl, hL, hA⟩ := of_lst r4
    exact ⟨a, vs, rfl, .of (hd_some hL).1, fun p hp => q p _ H4 ((e2.trans e3).trans e4) hp (repAll_cut hA)⟩
theorem cut_all {vs : List V} {lo hi : Option Int} (h : HT.sIx vs.length 0 lo = 0 ∧ HT.sIx vs.length vs.length hi = vs.length) : cutV vs lo hi = vs := by
  unfold cutV
  rw [h.1, h.2, Nat.sub_zero, List.drop_zero, List.take_length]
theorem ev_slT {xs : Tup α} {tl th : TO} {lo hi : Option Int} (ha : EvR T ta σ G xs) (hl : EvP T tl σ G lo) (hh : EvP T th σ G hi) : EvR T (tSl (rSlA K) ta tl th) σ G (Tup.mk (cut xs.items lo hi)) := fun S H1 s Q q =>
  ha S H1 s _ fun v H2 e2 r2 => hl S H2 (s.go e2) _ fun H3 e3 => hh S H3 (s.go (e2.trans e3)) _ fun H4 e4 => by
    have r4 := r2.le ((e3.trans e4).hd (s.go e2).dom)
    obtain ⟨a, vs, rfl, hL, hA⟩ := of_tup r4
    refine ⟨a, vs, rfl, .inl (hd_rd hL), fun hc => ?_, fun _ p hp => ev_newT s q ((e2.trans e3).trans e4) hp (repAll_cut hA)⟩
    have e : xs = Tup.mk (cut xs.items lo hi) := by
      have : cut xs.items lo hi = xs.items := by
        unfold cut
        rw [hA.length] at hc
        rw [hc.1, hc.2, Nat.sub_zero, List.drop_zero, List.take_length]
      rw [this]
    exact q _ H4 ((e2.trans e3).trans e4) (e ▸ r4)
theorem ev_catT {xs ys : Tup α} (ha : EvR T ta σ G xs) (hb : EvR T tb σ G ys) (hz : xs.items.length + ys.items.length ≤ 100000) : EvR T (tOp (rCatA K) ta tb) σ G (Tup.mk (xs.items ++ ys.items)) := fun S H1 s Q q =>
  ha S H1 s _ fun v H2 e2 r2 => hb S H2 (s.go e2) _ fun u H3 e3 r3 => by
    have r2' := r2.le (e3.hd (s.go e2).dom)
    obtain ⟨a, vs, rfl, hL, hA⟩ := of_tup r2'
    obtain ⟨b, us, rfl, hM, hB⟩ := of_tup r3
    have l1 := hA.length
    have l2 := hB.length
    refine ⟨a, b, vs, us, rfl, rfl, .inl (hd_rd hL), .inl (hd_rd hM), sz_of (by rw [l1, l2]; exact hz), fun e => ?_, fun _ e => ?_, fun _ _ p hp => ev_newT s q (e2.trans e3) hp (hA.append hB)⟩
    · have : xs.items = [] := List.length_eq_zero_iff.mp (by rw [← l1, e] <;> rfl)
      have e' : ys = Tup.mk (xs.items ++ ys.items) := by rw [this] <;> rfl
      exact q _ H3 (e2.trans e3) (e' ▸ r3)
    · have : ys.items = [] := List.length_eq_zero_iff.mp (by rw [← l2, e] <;> rfl)
      have e' : xs = Tup.mk (xs.items ++ ys.items) := by rw [this, List.append_nil]
      exact q _ H3 (e2.trans e3) (e' ▸ r2')
theorem en_rev {xs : List α} (ha : EvR T ta σ G xs) : EvN T (tRevL K ta) σ G xs.reverse := en_new fun S H1 s Q q => ha S H1 s _ fun v H2 e2 r2 => by
  obtain ⟨a, vs, rfl, hL, hA⟩ := of_lst r2
  exact ⟨a, vs, rfl, .of (hd_some hL).1, fun p hp => q p _ H2 e2 hp hA.reverse⟩
theorem eas_starL {tr : TA} {xs ys : List α} (h : EvR T ta σ G xs) (hr : EvAs T tr σ G ys) : EvAs T (StX.tStar K ta tr) σ G (xs ++ ys) := fun S H1 s Q q =>
  h S H1 s _ fun v H2 e2 r2 => by
    obtain ⟨a, vs, rfl, hL, hA⟩ := of_lst r2
    exact ⟨a, vs, rfl, .inr (.of (hd_some hL).1), hr S H2 (s.go e2) _ fun us H3 e3 r3 => q _ H3 (e2.trans e3) ((hA.le (e3.hd (s.go e2).dom)).append r3)⟩
theorem eas_starT {tr : TA} {xs : Tup α} {ys : List α} (h : EvR T ta σ G xs) (hr : EvAs T tr σ G ys) : EvAs T (StX.tStar K ta tr) σ G (xs.items ++ ys) := fun S H1 s Q q =>
  h S H1 s _ fun v H2 e2 r2 => by
    obtain ⟨a, vs, rfl, hL, hA⟩ := of_tup r2
    exact ⟨a, vs, rfl, .inl (.inl (hd_rd hL)), hr S H2 (s.go e2) _ fun us H3 e3 r3 => q _ H3 (e2.trans e3) ((hA.le (e3.hd (s.go e2).dom)).append r3)⟩
theorem ev_idx {xs : List α} {x : α} (ha : EvR T ta σ G xs) (hb : EvR T tb σ G x) (hx : x ∈ xs) (hz : xs.length ≤ 100000) : EvR T (tBM K "list" (rIdxQ α) ta (tCons tb tNil)) σ G ((xs.idxOf x : Nat) : Int) := fun S H1 s Q q =>
  ha S H1 s _ fun v H2 e2 r2 => by
    have r2' := r2
    obtain ⟨a, vs, rfl, hL, hA⟩ := of_lst r2
    exact ⟨.inl ⟨rfl, vs, .of (hd_some hL).1⟩, hb S H2 (s.go e2) _ fun u H3 e3 r3 => ⟨xs, u, x, (r2'.le (e3.hd (s.go e2).dom)).real, rfl, r3.real, hx, hz, q _ H3 (e2.trans e3) rep_int⟩⟩
/-! ### in -/
theorem inV_ints (i : Int) (xs : List Int) : inV (.int i) (xs.map V.int) = decide (i ∈ xs) := by
  unfold inV
  rw [List.any_map]
  induction xs with
  | nil => simp
  | cons y ys ih =>
    rw [List.any_cons, ih]
    show (eqV (V.int y) (V.int i) || decide (i ∈ ys)) = decide (i ∈ y :: ys)
    have e : eqV (V.int y) (V.int i) = decide (y = i) := by unfold eqV; simp [BEq.beq]
    rw [e]
    by_cases h : y = i
    · simp [h]
    · have : i ≠ y := fun z => h z.symm
      simp [h, this]
theorem flat_ints (xs : List Int) : (xs.map V.int).all flatV = true := by simp [List.all_map, flatV]
theorem ev_inT {xs : Tup Int} {neg : Bool} (ha : EvR T ta σ G i) (hb : EvR T tb σ G xs) : EvR T (tOp (rIn K neg) ta tb) σ G (if neg then !decide (i ∈ xs.items) else decide (i ∈ xs.items)) :=
  ev_op2 ha hb fun v u S H1 Q h1 h2 _ q => by
    obtain ⟨a, rfl, e⟩ := of_tupI h2
    refine ⟨a, _, rfl, .inr (.of (hd_some e).1), by rw [of_int h1] <;> rfl, flat_ints _, ?_⟩
    rw [of_int h1, inV_ints]
    exact q _ _ .same rep_bl
theorem ev_inL {xs : List Int} {neg : Bool} (ha : EvR T ta σ G i) (hb : EvR T tb σ G xs) : EvR T (tOp (rIn K neg) ta tb) σ G (if neg then !decide (i ∈ xs) else decide (i ∈ xs)) :=
  ev_op2 ha hb fun v u S H1 Q h1 h2 _ q => by
    obtain ⟨a, vs, rfl, hL, hA⟩ := of_lst h2
    rw [hA.ints] at hL
    refine ⟨a, _, rfl, .inl (.of (hd_some hL).1), by rw [of_int h1] <;> rfl, flat_ints _, ?_⟩
    rw [of_int h1, inV_ints]
    exact q _ _ .same rep_bl
theorem ev_ltT {xs ys : Tup Int} (ha : EvR T ta σ G xs) (hb : EvR T tb σ G ys) : EvR T (tOp (rLtT K) ta tb) σ G (HT.lexLt xs.items ys.items) :=
  ev_op2 ha hb fun v u S H1 Q h1 h2 _ q => by
    obtain ⟨a, rfl, e⟩ := of_tupI h1
    obtain ⟨b, rfl, f⟩ := of_tupI h2
    exact ⟨a, b, _, _, rfl, rfl, .of (hd_some e).1, .of (hd_some f).1, q _ _ .same rep_bl⟩
/-! ### isinstance -/
class TyD (α : Type) [DecidableEq α] [Datum α] where
  ty : String
  is : ∀ (K : PySem.W.Frag) (H : Hp) (v : V) (x : α), Rep H v x → TyX K H v (.type ty)
instance : TyD Int := ⟨"int", fun K H v x h => by rw [of_int h]; exact .base (.int _)⟩
instance : TyD Bool := ⟨"bool", fun K H v x h => by rw [of_bl h]; exact .base (.bl _)⟩
instance : TyD Str := ⟨"str", fun K H v x h => by rw [of_str h]; exact .base (.str _)⟩
instance : TyD Unit := ⟨"NoneType", fun K H v x h => by rw [of_non h]; exact .base .non⟩
instance : TyD (List α) := ⟨"list", fun K H v x h => by
  obtain ⟨a, vs, rfl, hL, hA⟩ := of_lst h
  exact .base (.lst hL)⟩
instance : TyD (Tup α) := ⟨"tuple", fun K H v x h => by
  obtain ⟨a, vs, rfl, hL, hA⟩ := of_tup h
  rcases hL with hL | ⟨o, hL⟩
  · exact .base (.tup hL)
  · exact .fTuple hL⟩
instance : TyD (α × β) := ⟨"tuple", fun K H v x h => by
  obtain ⟨a, vx, vy, rfl, hL, hA⟩ := of_pair h
  rcases hL with hL | ⟨o, hL⟩
  · exact .base (.tup hL)
  · exact .fTuple hL⟩
theorem TyD.real [TyD α] {K : PySem.W.Frag} {v : V} {x : α} (h : Rep (hd S H) v x) : TyX K H v (.type (TyD.ty α)) := TyD.is K H v x h.real
theorem ev_isi [TyD α] {c : String} (b : Bool) (ha : EvR T ta σ G x) (hb : kitB (TyD.ty α) c = some b) : EvR T (tCB (rIsi K) (tCons ta (tCons (tC (.ty c)) tNil))) σ G b := fun S H1 s Q q =>
  ha S H1 s _ fun v H2 e2 r2 => ⟨v, .ty c, _, _, b, rfl, .ty c, TyD.real r2, kit_ty hb, q _ H2 e2 rep_bl⟩
theorem ev_isiT2 [TyD α] {c1 c2 : String} (b1 b2 : Bool) (ha : EvR T ta σ G x) (h1 : kitB (TyD.ty α) c1 = some b1) (h2 : kitB (TyD.ty α) c2 = some b2) : EvR T (tCB (rIsiT K) (tCons ta (tCons (tTup (tCons (tC (.ty c1)) (tCons (tC (.ty c2)) tNil))) tNil))) σ G (b1 || b2) := fun S H1 s Q q =>
  ha S H1 s _ fun v H2 e2 r2 => ⟨by show (2 : Nat) ≤ sizeLine; decide, fun p hp => ⟨v, p, [.ty c1, .ty c2], _, [.type c1, .type c2], b1 || b2, rfl, upd_same, .cons (.ty c1) (.cons (.ty c2) .nil), TyD.real (r2.le ((s.go e2).newD hp)), by
    unfold kitAny
    rw [kit_ty h1]
    cases b1 with
    | true => rfl
    | false =>
      show kitAny K _ _ = _
      unfold kitAny
      rw [kit_ty h2]
      cases b2 <;> rfl, q _ _ (e2.trans (.new hp)) rep_bl⟩⟩
/-! ### texts -/
theorem ev_addS {x y : Str} (ha : EvR T ta σ G x) (hb : EvR T tb σ G y) (hz : x.length + y.length ≤ 100000) : EvR T (tOp rAddS ta tb) σ G (x ++ y) :=
  ev_op2 ha hb fun v u S H1 Q h1 h2 _ q => ⟨x, y, of_str h1, of_str h2, sz_of hz, q _ _ .same rep_str⟩
theorem ev_slS {x : Str} {tl th : TO} {lo hi : Option Int} (ha : EvR T ta σ G x) (hl : EvP T tl σ G lo) (hh : EvP T th σ G hi) (hz : x.length ≤ 100000) : EvR T (tSl rSlS ta tl th) σ G (cutS x lo hi) := fun S H1 s Q q =>
  ha S H1 s _ fun v H2 e2 r2 => hl S H2 (s.go e2) _ fun H3 e3 => hh S H3 (s.go (e2.trans e3)) _ fun H4 e4 => ⟨x, of_str r2, sz_of hz, q _ H4 ((e2.trans e3).trans e4) rep_str⟩
def rLenStr : List V → Hp → VK → Prop := fun xs H Q => ∃ z, xs = [.str z] ∧ z.length ≤ sizeLine ∧ Q (.int z.length) H
theorem ev_lenS {x : Str} (ha : EvR T ta σ G x) (hz : x.length ≤ 100000) : EvR T (tCB rLenStr (tCons ta tNil)) σ G (x.length : Int) := ev_cb1 ha fun v S H1 Q h _ q => ⟨x, by rw [of_str h], sz_of hz, q _ _ .same rep_int⟩
def repS (z : Str) (n : Nat) : Str := ⟨(List.replicate n z.cps).foldl (· ++ ·) #[]⟩
theorem fold_size (c : Array Nat) : ∀ (n : Nat) (a : Array Nat), ((List.replicate n c).foldl (· ++ ·) a).size = a.size + n * c.size
  | 0, a => by simp
  | n + 1, a => by
    rw [List.replicate_succ, List.foldl_cons, fold_size c n, Array.size_append, Nat.succ_mul]
    omega
theorem repS_size (z : Str) (n : Nat) : (repS z n).cps.size = n * z.cps.size := by
  unfold repS
  show ((List.replicate n z.cps).foldl (· ++ ·) #[]).size = _
  rw [fold_size]
  simp
def rMulT : R2 := fun x y H Q => ∃ z i, x = .str z ∧ y = .int i ∧ 0 < i ∧ i ≤ 1000 ∧ z.length = 1 ∧ Q (.str (repS z i.toNat)) H
theorem op_mulT {X : Cx} : OpR X (binaryOp .Mult) rMulT := by
  intro pins s σ H x y v u Q I rx ry h
  obtain ⟨z, i, rfl, rfl, h1, h2, hz, q⟩ := h
  obtain ⟨t, rfl⟩ := rx
  obtain ⟨t2, rfl⟩ := ry
  refine P.mul_str ?_ ?_ ?_ ?_
  · simp only [Bool.or_eq_false_iff, decide_eq_false_iff_not]
    omega
  · intro _ _ h3
    rw [hz] at h3
    have : (1 : Int) ≤ (2 ^ 63 - 1) / i := by
      apply Int.le_ediv_of_mul_le h1
      omega
    omega
  · intro _ _
    rw [hz]
    refine decide_eq_false ?_
    show ¬ (1 * i.toNat > sizeLine)
    rw [sizeLine_eq]
    omega
  · rw [if_neg (by omega)]
    by_cases h3 : i = 1
    · subst h3
      rw [if_pos (by simp)]
      have e : repS z (1 : Int).toNat = z := by
        unfold repS
        show (⟨#[] ++ z.cps⟩ : Str) = z
        rw [Array.empty_append]
      rw [e] at q
      exact ⟨.str z, H, I, ⟨_, rfl⟩, q⟩
    · rw [if_neg (by simp [h3, hz])]
      refine ⟨?_, .str _, H, I.tok _, ⟨_, rfl⟩, q⟩
      show (repS z i.toNat).cps.size ≤ sizeLine
      rw [repS_size, show z.cps.size = 1 from hz, sizeLine_eq]
      omega
theorem ev_mulS {x : Str} (ha : EvR T ta σ G x) (hb : EvR T tb σ G i) (h1 : 0 < i) (h2 : i ≤ 1000) (hz : x.length = 1) : EvR T (tOp rMulT ta tb) σ G (repS x i.toNat) :=
  ev_op2 ha hb fun v u S H1 Q r1 r2 _ q => ⟨x, i, of_str r1, of_int r2, h1, h2, hz, q _ _ .same rep_str⟩
end
end K4
end
section
set_option Elab.async false
set_option linter.all false
set_option maxRecDepth 100000
set_option maxHeartbeats 4000000
namespace K4
open PySem PySem.Spec PyProof.Rows L2 PySem.W
section
variable {P : Program} {w : World} {A : Around} {E : Value → Shared → Prop} {s : Shared}
theorem call_set_lstI {l : Addr} {items : Array Value} (ns : List Int) {Q : Value → Shared → Prop} (hh : A.handled = none) (hl : s.heap.IsList l items) (hit : IntsAre items.toList ns) (hb : ns.length + 1 < scanBound)
    (h : ∀ (h' : Heap) (tk c : Nat), SetR w h' s.heap.objs.size (fun j => decide (j ∈ ns)) c → c ≤ ns.length → (∀ b o, s.heap.get? b = some o → h'.get? b = some o) → Q (.ref s.heap.objs.size) { s with heap := h', toks := tk }) :
    wpAny (model P w) A (call (.type "set") [.ref l]) Q E s := by
  have hisz : items.size = ns.length := by
    have q := IntsAre.length hit
    rw [Array.length_toList] at q
    exact q
  obtain ⟨c, tl, hmro⟩ := F.called_set.mro
  have hmade := F.called_set.made
  have hsub := F.called_set.sub
  refine wpAny_call (codeAny_of_tree ?_)
  show wpAny _ _ (callAny (.type "set") _) _ _ _
  refine wpAny_pure ⟨Code.quiet_builtin _ (by decide +kernel), codeAny_builtin F.entry_type_call ?_⟩
  rw [Around.under_plain (weight_type_call_type "set" [.ref l] []) rfl]
  have h1 := F.called_set.notType
  have h2 := F.called_set.canCreate
  have hct := F.typeCall_set_1 (.ref l)
  repeat (any_goals (first | assumption | wp_step))

  refine codeAny_mono (L2.code_set_led1 (.ref l) (E := E) (Q₁ := fun obj s₁ => obj = .ref s.heap.objs.size ∧ s₁ = { s with heap := s.heap.push { cls := .type "set", dict := none, data := .set #[] 0 (.fresh 0 0 (!w.params.followText "set-order")) } }) ⟨rfl, rfl⟩) fun r s₁ hr => ?_
  cases r with
  | error e => exact hr
  | ok fl =>
    cases fl with
    | ret obj =>
      obtain ⟨rfl, rfl⟩ := hr
      have hS : (s.heap.push { cls := .type "set", dict := none, data := .set #[] 0 (.fresh 0 0 (!w.params.followText "set-order")) }).get? s.heap.objs.size = some { cls := .type "set", dict := none, data := .set #[] 0 (.fresh 0 0 (!w.params.followText "set-order")) } := Heap.get?_push_size _ rfl
      have hT : Shared.TypeIs { s with heap := s.heap.push { cls := .type "set", dict := none, data := .set #[] 0 (.fresh 0 0 (!w.params.followText "set-order")) } } (.ref s.heap.objs.size) "set" := ⟨_, hS, rfl⟩
      have hli := F.called_set.init.lookup
      have hbi := F.called_set.init.bind (.ref s.heap.objs.size)
      repeat (any_goals (first | assumption | wp_step))

      refine codeAny_mono (codeAny_call_builtin (R := wants (fun r s₂ => r = .none ∧ ∃ h' tk c, s₂ = { s with heap := h', toks := tk } ∧ SetR w h' s.heap.objs.size (fun j => decide (j ∈ ns)) c ∧ c ≤ ns.length ∧
          (∀ b o, s.heap.get? b = some o → h'.get? b = some o)) E) F.called_set.init.plain F.entry_set_init (check_set_init_1 hT ?_)) fun r₂ s₂ hr₂ => ?_
      · obtain ⟨ol, hol, hcl, nl, hdl⟩ := hl
        obtain ⟨ocls, odict, odata, oslots⟩ := ol
        simp only at hcl hdl
        subst hcl; subst hdl
        have hol' : (s.heap.push { cls := .type "set", dict := none, data := .set #[] 0 (.fresh 0 0 (!w.params.followText "set-order")) }).get? l = some { cls := .type "list", dict := odict, data := .seq items nl, slots := oslots } := Heap.get?_push_of_some _ hol
        have hsls := F.sub_list_set
        have hslf := F.sub_list_frozenset
        have hne : (Value.type "list" == Value.type "dict") = false := by decide
        have hl1 : (s.heap.push { cls := .type "set", dict := none, data := .set #[] 0 (.fresh 0 0 (!w.params.followText "set-order")) }).IsList l items := ⟨_, hol', rfl, nl, rfl⟩
        unfold Builtin.«set.__init__» noKeywords Builtin.Frozenset.updateFrom
        generalize hPI : pyIter = PI
        wp_walk
        subst hPI

        refine wpAny_pyIter_list hl1 ?_
        refine wpAny_bind (wpAny_runValue ?_)
        have hlS : l < s.heap.objs.size := Heap.lt_size hol
        have hh3 : A.in1.in1.in1.handled = none := by simp [hh]
        have hz1 : (s.heap.push { cls := .type "set", dict := none, data := .set #[] 0 (.fresh 0 0 (!w.params.followText "set-order")) }).objs.size = s.heap.objs.size + 1 := Heap.size_push ..
        have hneI : l ≠ (s.heap.push { cls := .type "set", dict := none, data := .set #[] 0 (.fresh 0 0 (!w.params.followText "set-order")) }).objs.size := by
          rw [Heap.size_push]; exact Nat.ne_of_lt (Nat.lt_succ_of_lt hlS)
        have hSf : s.heap.objs.size ∉ [(s.heap.push { cls := .type "set", dict := none, data := .set #[] 0 (.fresh 0 0 (!w.params.followText "set-order")) }).objs.size, l] := by
          rw [Heap.size_push]; simp only [List.mem_cons, List.mem_singleton, List.not_mem_nil, or_false, not_or]
          exact ⟨Nat.ne_of_lt (Nat.lt_succ_self _), Nat.ne_of_gt hlS⟩
        have hval : ∀ (i : Nat) (v : Value), items[i]? = some v → ∃ k t, ns[i]? = some k ∧ v = .int k t := fun i v hv => by
          have hi : i < ns.length := by rw [← hisz]; exact (Array.getElem?_eq_some_iff.mp hv).1
          obtain ⟨t, e⟩ := PyProof.Rows.IntsAre.int_at hit i v (by rw [Array.getElem?_toList]; exact hv)
          refine ⟨ns[i], t, List.getElem?_eq_getElem hi, ?_⟩
          rw [e, List.getD_eq_getElem?_getD, List.getElem?_eq_getElem hi] <;> rfl
        refine L2.set_update_ints ((Walks.list hh3 _ l hneI items).toS) s.heap.objs.size
          hSf ns hisz hb hval (items.size - 0) 0 _ (by omega) (Nat.zero_le _)
          ⟨⟨_, Heap.get?_push_size _ rfl, rfl, rfl⟩, (hl1.push _)⟩ ?hS0 ?hR
        case hS0 =>
          have hget : ((s.heap.push { cls := .type "set", dict := none, data := .set #[] 0 (.fresh 0 0 (!w.params.followText "set-order")) }).push { cls := .type "list_iterator", data := .fields #[.ref l, .int 0 0] }).get? s.heap.objs.size
              = some { cls := .type "set", dict := none, data := .set #[] 0 (.fresh 0 0 (!w.params.followText "set-order")) } := Heap.get?_push_of_some _ hS
          exact ⟨0, Nat.le_refl 0, L2.setR_new_at hget⟩
        case hR =>
          intro s' c' hm hc' hS'
          obtain ⟨h', g2, d', tk', os'⟩ := s'
          have eg : g2 = s.gens := hm.gens
          have ed : d' = s.drawn := hm.drawn
          have eo : os' = s.os := hm.os
          subst eg; subst ed; subst eo
          show wpAny _ _ _ _ _ _
          refine wpAny_pure ?_
          show wpAny _ _ (ret Value.none) _ _ _
          rw [hisz] at hc'
          refine wpAny_pure ⟨rfl, h', tk', c', rfl, hS', hc', fun b o e => ?_⟩
          have hb0 : b < s.heap.objs.size := Heap.lt_size e
          have hb1 : b ≠ s.heap.objs.size := Nat.ne_of_lt hb0
          have hb2 : b ≠ (s.heap.push { cls := .type "set", dict := none, data := .set #[] 0 (.fresh 0 0 (!w.params.followText "set-order")) }).objs.size := by
            rw [Heap.size_push]; exact Nat.ne_of_lt (Nat.lt_succ_of_lt hb0)
          exact hm.heap b o (by simp only [List.mem_cons, List.mem_singleton, List.not_mem_nil, or_false, not_or]; exact ⟨hb1, hb2⟩) (Heap.get?_push_of_some _ (Heap.get?_push_of_some _ e))

      · cases r₂ with
        | error e => exact hr₂
        | ok fl₂ =>
          cases fl₂ with
          | ret r =>
            obtain ⟨rfl, h', tk, c', rfl, hS', hc', hk'⟩ := hr₂
            repeat (any_goals (first | assumption | wp_step))
            exact h _ _ _ hS' hc' hk'
          | _ => exact hr₂.elim
    | _ => exact hr.elim

end
/-- set(xs) of ints -/
def rSetI (w : World) (K : PySem.W.Frag) : List V → Hp → VK → Prop := fun xs H Q => ∃ (p : Addr) (ns : List Int), xs = [.ref p] ∧ (SqT K H p (ns.map V.int) ∨ SqL K H p (ns.map V.int)) ∧ ns.length ≤ 60 ∧
  ∀ a n, H a = none → n ≤ ns.length → Q (.ref a) (upd H a (SetO w a (fun j => decide (j ∈ ns)) n))
theorem cr_setI {X : Cx} (hc : X.calm = true) : CallR X (.type "set") (rSetI X.w X.K) := by
  intro pins s σ H xs us Q I r h
  obtain ⟨p, ns, rfl, hq, hl, q⟩ := h
  obtain ⟨u, rfl, rx⟩ := r.one
  cases rx
  have hd := I.ok.hd hc
  have fin : ∀ (h' : Heap) (tk c : Nat), SetR X.w h' s.heap.objs.size (fun j => decide (j ∈ ns)) c → c ≤ ns.length → (∀ b o, s.heap.get? b = some o → h'.get? b = some o) → EP X pins σ Q (.ref s.heap.objs.size) { s with heap := h', toks := tk } := fun h' tk c R1 hcn k =>
    ⟨.ref s.heap.objs.size, _, I.laid (t' := tk) k (Nat.le_refl _) (setO_new R1), rfl, q _ c (I.hok.fresh (Nat.le_refl _)) hcn⟩
  rcases hq with hq | hq
  · obtain ⟨its, rv, pt, hz⟩ := I.tuple hq
    exact call_set_tupI ns hd (show s.heap.IsTuple p its.toArray from pt) (Vals.ints rv) (by unfold scanBound; omega) fin
  · obtain ⟨its, rv, pt, hz⟩ := I.list hq
    exact call_set_lstI ns hd pt.isList (Vals.ints rv) (by unfold scanBound; omega) fin
end K4
end
section
set_option Elab.async false
set_option linter.all false
set_option maxRecDepth 100000
set_option maxHeartbeats 4000000
namespace K4
open PySem PySem.Spec PyProof.Rows L2 PySem.W
/-! ### sorted, texts in tuples -/
def enP (x : Tup Str) : PyData := Datum.toD x
def rSortPic : List V → Hp → VK → Prop := fun vs H Q => ∃ (v : V) (xs : List (Tup Str)), vs = [v] ∧ Rep H v xs ∧ xs.length ≤ 100000 ∧ (∀ x ∈ xs, x.items ≠ []) ∧
  ∀ (p : Addr) (us : List V) (ys : List (Tup Str)), ys.Perm xs → H p = none → RepAll H us ys → Q (.ref p) (upd H p (.lst us))
theorem alikeS : ∀ xs ys : List Str, alikeAll (xs.map PyData.str) (ys.map PyData.str) = true
  | [], [] => rfl
  | [], _ :: _ => rfl
  | _ :: _, [] => rfl
  | x :: xs, y :: ys => by
    rw [List.map_cons, List.map_cons]
    unfold alikeAll
    rw [alikeS xs ys] <;> rfl
theorem depthS : ∀ xs : List Str, PyData.depthAll (xs.map PyData.str) = 0
  | [] => rfl
  | x :: xs => by
    rw [List.map_cons]
    unfold PyData.depthAll
    rw [depthS xs] <;> rfl
theorem cr_sortPic {X : Cx} (hu : X.A.units + 66 < cLine) : CallR X (.builtin "sorted") rSortPic := by
  intro pins s σ H vs us Q I r h
  obtain ⟨v, xs, rfl, hv, hlen, hne, q⟩ := h
  obtain ⟨u, rfl, rx⟩ := r.one
  obtain ⟨a, ws, rfl, hL, hA⟩ := of_lst hv
  cases rx
  obtain ⟨its, rv, pl, hz⟩ := I.list (.of hL)
  -- each item reads as the tuple that it stands for
  have key : ∀ {ws : List V} {its : List Value} {xs : List (Tup Str)}, RepAll H ws xs → Vals ws its → EachIs (fun u x => ∃ w : V, RelV w u ∧ Rep H w x) its xs := by
    intro ws its xs h
    induction xs generalizing ws its with
    | nil =>
      intro r
      rw [h.nil_of] at r
      cases r
      exact .nil
    | cons x xs ih =>
      intro r
      obtain ⟨w, ws', rfl, h1, h2⟩ := h.uncons
      cases r with
      | cons r1 r2 => exact .cons ⟨w, r1, h1⟩ (ih h2 r2)
  have e := key hA rv
  have er : EachIs (fun v b => ∃ as, Reads s.heap v (enP b) as) its xs := e.mono fun u x ⟨w, r1, h1⟩ => by
    have hh := Rep.holds I h1 r1
    obtain ⟨as, hr⟩ := hh
    exact ⟨as, hr⟩
  have hal : AllAlike (xs.map enP) := AllAlike.of fun b b' => by
    show alike (PyData.tuple (b.items.map PyData.str)) (PyData.tuple (b'.items.map PyData.str)) = true
    unfold alike
    exact alikeS _ _
  have hk : Sortable (xs.map enP) := .inl fun d hd => by
    obtain ⟨x, hx, rfl⟩ := List.mem_map.mp hd
    have := hne x hx
    cases hi : x.items with
    | nil => exact absurd hi this
    | cons y ys => exact ⟨.str y, ys.map PyData.str, by show PyData.tuple (x.items.map PyData.str) = _; rw [hi] <;> rfl⟩
  refine PySem.W.sorted_data (R := fun u x => ∃ w : V, RelV w u ∧ Rep H w x) pl.isList e er hal hk (by rw [sizeLine_eq]; omega) (fun b hb => ?_) fun out hol hE => ?_
  · have : (enP b).depth ≤ 1 := by
      show (PyData.tuple (b.items.map PyData.str)).depth ≤ 1
      unfold PyData.depth
      rw [depthS]
      exact Nat.le_refl _
    show X.A.units + 2 + _ < cLine
    omega
  · -- the sorted ones, by values
    have back : ∀ {out : List Value} {ys : List (Tup Str)}, EachIs (fun u x => ∃ w : V, RelV w u ∧ Rep H w x) out ys → ∃ ws : List V, Vals ws out ∧ RepAll H ws ys := by
      intro out ys h
      induction ys generalizing out with
      | nil =>
        cases h
        exact ⟨[], .nil, repAll_nil⟩
      | cons y ys ih =>
        cases h with
        | cons h1 h2 =>
          obtain ⟨w, r1, p1⟩ := h1
          obtain ⟨ws, r2, p2⟩ := ih h2
          exact ⟨w :: ws, .cons r1 r2, repAll_cons p1 p2⟩
    obtain ⟨us, ru, hr⟩ := back hE
    have hn : H (s.heap.objs.size + 1) = none := I.hok.fresh (Nat.le_succ _)
    obtain ⟨ep, hat⟩ := PyProof.Rows.sortedAll_at s.heap its (List.toArray out)
    have I2 : Inv X pins σ (upd H (s.heap.objs.size + 1) (.lst us)) { s with heap := sortedAll s.heap its (List.toArray out) } :=
      I.laid (t' := s.toks) (fun b o e => sortedAll_old e) (Nat.le_succ _) ⟨by rw [ru.length, hol, sizeLine_eq]; omega, out, ep, ru, hat⟩
    exact ⟨.ref (s.heap.objs.size + 1), _, I2, rfl, q _ us _ (List.mergeSort_perm _ _) hn hr⟩
section
variable {T : List (Addr × Str)} {σ : L2.St} {S : List Addr} {G G' H H' H1 : Hp} {K : PySem.W.Frag} {α β γ δ ε : Type} [DecidableEq α] [Datum α] [DecidableEq β] [Datum β] [DecidableEq γ] [Datum γ] [DecidableEq δ] [Datum δ] [DecidableEq ε] [Datum ε]
  {te ta tb tc td tk tv : TE} {t u : TT} {v : V} {b c : Bool} {i j : Int} {n : Nat} {p : Addr} {x : α} {y : β} {z : γ} {w : δ}
/-! ### zip of two tuples -/
theorem sr_zipT {xs : Tup α} {ys : Tup β} (ha : EvR T ta σ G xs) (hb : EvR T tb σ G ys) : Src T (RZ.iZipA K (tCons ta (tCons tb tNil))) σ G (xs.items.zip ys.items) := fun S H1 s R q =>
  ha S H1 s _ fun v H2 e2 r2 => hb S H2 (s.go e2) _ fun u H3 e3 r3 => by
    have r2' := r2.le (e3.hd (s.go e2).dom)
    obtain ⟨a, vs, rfl, hL, hA⟩ := of_tup r2'
    obtain ⟨b, us, rfl, hM, hB⟩ := of_tup r3
    refine ⟨a, b, vs, us, rfl, .inr ⟨.inl (hd_rd hL), .inl (hd_rd hM), q _ H3 (e2.trans e3) fun S' H4 s4 i => ⟨fun p hp => ?_, fun hi => ⟨vs, us, .inl (hd_rd (s4.le.rdT hL)), .inl (hd_rd (s4.le.rdT hM)), ?_⟩⟩⟩⟩
    · obtain ⟨h1, h2⟩ := List.getElem?_zip_eq_some.mp hp
      obtain ⟨w1, e1, r1⟩ := hA.at' h1
      obtain ⟨w2, e2', r2''⟩ := hB.at' h2
      refine ⟨⟨vs, us, w1, w2, .inl (hd_rd (s4.le.rdT hL)), .inl (hd_rd (s4.le.rdT hM)), e1, e2'⟩, fun v H' y => ?_⟩
      obtain ⟨T', x', y', rfl, hT, rfl, f1, f2⟩ := y
      have g1 := f1 vs (.inl (hd_rd (s4.le.rdT hL)))
      have g2 := f2 us (.inl (hd_rd (s4.le.rdT hM)))
      rw [e1] at g1
      rw [e2'] at g2
      cases g1
      cases g2
      exact ⟨.new hT, rep_pair (z := p.1) (w := p.2) (s4.at_new hT) ((r1.le s4.le).le (s4.newD hT)) ((r2''.le s4.le).le (s4.newD hT))⟩
    · rw [List.length_zip] at hi
      rw [hA.length, hB.length]
      omega
/-! ### a tuple whose object is known -/
def Ex (H : Hp) (v : V) : Prop := ∃ a o xs, v = .ref a ∧ H a = some (.frz o (.tup xs)) ∧ o.dict = none
theorem Ex.le (h : Ex H v) (e : Le T H H') : Ex H' v := by
  obtain ⟨a, o, xs, rfl, h1, h2⟩ := h
  exact ⟨a, o, xs, rfl, e.stay h1 trivial, h2⟩
theorem Ex.real (h : Ex (hd S H) v) : Ex H v := by
  obtain ⟨a, o, xs, rfl, h1, h2⟩ := h
  exact ⟨a, o, xs, rfl, (hd_some h1).1, h2⟩
/-- it stands for data and its object is known -/
def EvX (T : List (Addr × Str)) (te : TE) (σ : L2.St) (G : Hp) (x : α) : Prop := ∀ S H1, Sg T G S H1 → ∀ Q : VK, (∀ v H2, Le T H1 H2 → Rep (hd S H2) v x → Ex (hd S H2) v → Q v H2) → te σ H1 Q
theorem EvX.r (h : EvX T te σ G x) : EvR T te σ G x := fun S H1 s Q q => h S H1 s Q fun v H2 e r _ => q v H2 e r
theorem ex_var (h : σ[n]? = some (some v)) (r : Rep G v x) (e : Ex G v) : EvX T (tVar n) σ G x := fun S H1 s Q q => ⟨v, h, q v H1 .same (r.le s.le) (e.le s.le)⟩
theorem EvX.le (h : EvX T te σ G x) (e : Le T G G') : EvX T te σ G' x := fun S H1 s Q q => h S H1 (s.down e) Q q
/-- tuple(list of pairs), its object known -/
theorem ev_tupF {xs : List (Tup Int × β)} (ha : EvR T ta σ G xs) (hne : xs ≠ []) : EvX T (tThen ta (kTupF K)) σ G (Tup.mk xs) := fun S H1 s Q q => ha S H1 s _ fun v H2 e2 r2 => by
  obtain ⟨a, vs, rfl, hL, hA⟩ := of_lst r2
  refine ⟨a, vs, rfl, .of (hd_some hL).1, fun p o hp ho => ?_⟩
  have s2 := s.go e2
  have hg : hd S (upd H2 p (.frz o (.tup vs))) p = some (.frz o (.tup vs)) := s2.at_new hp
  have hA' := hA.le (s2.newD (o := .frz o (.tup vs)) hp)
  refine q _ _ (e2.trans (.new hp)) ?_ ⟨p, o, vs, rfl, hg, ho⟩
  cases xs with
  | nil => exact absurd rfl hne
  | cons e xs => exact Dq.tupF (es := [Datum.toD e.1, Datum.toD e.2]) hg hA'
/-- promises on such arguments: the third -/
def Pu3x (T : List (Addr × Str)) (P : α → β → γ → Prop) (f : α → β → γ → δ) : Sp := fun vs H Q _ => ∃ S v u w x y z, Dom S H ∧ vs = [v, u, w] ∧ Rep (hd S H) v x ∧ Rep (hd S H) u y ∧ Rep (hd S H) w z ∧ Ex (hd S H) w ∧ P x y z ∧ LamX.Tabs T H ∧ ∀ r H', Le T H H' → Rep (hd S H') r (f x y z) → Q r H'
def Pu4x (T : List (Addr × Str)) (P : α → β → γ → δ → Prop) (f : α → β → γ → δ → ε) : Sp := fun vs H Q _ => ∃ S v u w t x y z q, Dom S H ∧ vs = [v, u, w, t] ∧ Rep (hd S H) v x ∧ Rep (hd S H) u y ∧ Rep (hd S H) w z ∧ Rep (hd S H) t q ∧ Ex (hd S H) w ∧ P x y z q ∧ LamX.Tabs T H ∧ ∀ r H', Le T H H' → Rep (hd S H') r (f x y z q) → Q r H'
/-- the tables stand -/
def GT (T : List (Addr × Str)) (G : Hp) : Prop := LamX.Tabs T G
theorem Sg.tabs (s : Sg T G S H) (h : GT T G) : LamX.Tabs T H := fun q hq => by
  obtain ⟨ps, h1, h2, h3⟩ := s.le.tab h q hq
  refine ⟨ps, (hd_some h1).1, h2, fun pos cv hc => ?_⟩
  obtain ⟨c, e1, e2⟩ := h3 pos cv hc
  exact ⟨c, e1, (hd_some e2).1⟩
theorem ev_call3x {P : α → β → γ → Prop} {f : α → β → γ → δ} (gt : GT T G) (h1 : EvR T ta σ G x) (h2 : EvR T tb σ G y) (h3 : EvX T tc σ G z) (p : P x y z) : EvR T (tCall (Pu3x T P f) [] E0 (tCons ta (tCons tb (tCons tc tNil)))) σ G (f x y z) := fun S H1 s Q q =>
  h1 S H1 s _ fun v H2 e2 r2 => h2 S H2 (s.go e2) _ fun u H3 e3 r3 => h3 S H3 (s.go (e2.trans e3)) _ fun t H4 e4 r4 x4 =>
    ⟨S, v, u, t, x, y, z, (s.go ((e2.trans e3).trans e4)).dom, rfl, r2.le ((e3.trans e4).hd (s.go e2).dom), r3.le (e4.hd (s.go (e2.trans e3)).dom), r4, x4, p, (s.go ((e2.trans e3).trans e4)).tabs gt, fun w H5 e5 r5 => q w H5 (((e2.trans e3).trans e4).trans e5) r5⟩
theorem ev_call4x {P : α → β → γ → δ → Prop} {f : α → β → γ → δ → ε} (gt : GT T G) (h1 : EvR T ta σ G x) (h2 : EvR T tb σ G y) (h3 : EvX T tc σ G z) (h4 : EvR T td σ G w) (p : P x y z w) :
    EvR T (tCall (Pu4x T P f) [] E0 (tCons ta (tCons tb (tCons tc (tCons td tNil))))) σ G (f x y z w) := fun S H1 s Q q =>
  h1 S H1 s _ fun v H2 e2 r2 => h2 S H2 (s.go e2) _ fun u H3 e3 r3 => h3 S H3 (s.go (e2.trans e3)) _ fun t H4 e4 r4 x4 => h4 S H4 (s.go ((e2.trans e3).trans e4)) _ fun t' H5 e5 r5 =>
    ⟨S, v, u, t, t', x, y, z, w, (s.go (((e2.trans e3).trans e4).trans e5)).dom, rfl, r2.le (((e3.trans e4).trans e5).hd (s.go e2).dom), r3.le ((e4.trans e5).hd (s.go (e2.trans e3)).dom), r4.le (e5.hd (s.go ((e2.trans e3).trans e4)).dom), r5, x4.le (e5.hd (s.go ((e2.trans e3).trans e4)).dom), p, (s.go (((e2.trans e3).trans e4).trans e5)).tabs gt,
      fun w' H6 e6 r6 => q w' H6 ((((e2.trans e3).trans e4).trans e5).trans e6) r6⟩
/-! ### dict(pairs) -/
theorem pairs_of' {m : List (Tup Int × Int)} : ∀ {vs : List V}, RepAll H vs m → ∃ ps : List PairT, vs = ps.map (fun z => V.ref z.1) ∧ ps.map (fun z => z.2.2) = m.map kE ∧ ∀ z ∈ ps, Rd H z.1 (.tup [.ref z.2.1, z.2.2.2]) ∧ H z.2.1 = some (.tup (z.2.2.1.map kV)) := by
  induction m with
  | nil =>
    intro vs h
    rw [h.nil_of]
    exact ⟨[], rfl, rfl, fun z hz => nomatch hz⟩
  | cons e m ih =>
    intro vs h
    obtain ⟨v, ws, rfl, h1, h2⟩ := h.uncons
    obtain ⟨ps, e1, e2, e3⟩ := ih h2
    obtain ⟨a, vx, vy, rfl, hL, hx, hy⟩ := of_pair h1
    obtain ⟨q, rfl, hq⟩ := of_tupI hx
    obtain rfl := of_int hy
    refine ⟨(a, q, kT e.1, V.int e.2) :: ps, by rw [e1] <;> rfl, by rw [List.map_cons, e2] <;> rfl, fun z hz => ?_⟩
    rcases List.mem_cons.mp hz with rfl | hz
    · refine ⟨hL, ?_⟩
      show H q = some (.tup ((kT e.1).map kV))
      rw [kT_v]
      exact hq
    · exact e3 z hz
theorem merge_kE : ∀ (m ks : List (Tup Int × Int)), mergeT (ks.map kE) (m.map kE) = (m.foldl (fun acc e => putD acc e.1 e.2) ks).map kE
  | [], ks => rfl
  | e :: m, ks => by
    rw [List.map_cons, List.foldl_cons, ← merge_kE m]
    show mergeT (putK (ks.map kE) (kT e.1) (AtV.vV e.2)) (m.map kE) = _
    rw [put_kE]
theorem eo_dictP {m : Tup (Tup Int × Int)} (ha : EvX T ta σ G m) : EvO T (tCB rDictPT (tCons ta tNil)) σ G (.dT ((m.items.foldl (fun acc e => putD acc e.1 e.2) []).map kE)) := fun S H1 s Q q => ha S H1 s _ fun v H2 e2 r2 x2 => by
  have s2 := s.go e2
  obtain ⟨a, o, xs, rfl, h1, h2⟩ := x2
  obtain ⟨a', vs, ea, hL, hA⟩ := of_tup r2
  cases ea
  have evs : vs = xs := by
    rcases hL with hL | ⟨o', hL⟩
    · rw [h1] at hL
      cases hL
    · rw [h1] at hL
      cases hL
      rfl
  subst evs
  obtain ⟨ps, e1, e3, e4⟩ := pairs_of' hA
  refine ⟨a, o, ps, rfl, by rw [← e1]; exact (hd_some h1).1, h2, fun z hz => ⟨hd_rd (e4 z hz).1, (hd_some (e4 z hz).2).1⟩, fun p hp => ?_⟩
  rw [e3]
  have := merge_kE m.items []
  rw [List.map_nil] at this
  rw [this]
  exact q p _ (s2.fresh hp) (e2.trans (.new hp)) ((e2.hd s.dom).trans (le_hide_new s2 hp)) upd_same
end
/-! ### sorted(set(xs)) -/
def insU (x : Int) : List Int → List Int
  | [] => [x]
  | y :: ys => if x < y then x :: y :: ys else if x = y then y :: ys else y :: insU x ys
def usort : List Int → List Int
  | [] => []
  | x :: xs => insU x (usort xs)
theorem insU_mem (x z : Int) : ∀ ys, z ∈ insU x ys ↔ z = x ∨ z ∈ ys
  | [] => by simp [insU]
  | y :: ys => by
    unfold insU
    split
    · simp
    · split
      · rename_i h
        subst h
        simp
      · rw [List.mem_cons, insU_mem x z ys, List.mem_cons]
        constructor
        · rintro (h | h | h)
          · exact .inr (.inl h)
          · exact .inl h
          · exact .inr (.inr h)
        · rintro (h | h | h)
          · exact .inr (.inl h)
          · exact .inl h
          · exact .inr (.inr h)
theorem usort_mem (z : Int) : ∀ xs, z ∈ usort xs ↔ z ∈ xs
  | [] => Iff.rfl
  | x :: xs => by
    show z ∈ insU x (usort xs) ↔ _
    rw [insU_mem, usort_mem z xs, List.mem_cons]
theorem insU_sorted (x : Int) : ∀ {ys : List Int}, ys.Pairwise (· < ·) → (insU x ys).Pairwise (· < ·)
  | [], _ => List.pairwise_singleton _ _
  | y :: ys, h => by
    obtain ⟨h1, h2⟩ := List.pairwise_cons.mp h
    unfold insU
    split
    · rename_i hlt
      refine List.pairwise_cons.mpr ⟨fun z hz => ?_, h⟩
      rcases List.mem_cons.mp hz with rfl | hz
      · exact hlt
      · exact Int.lt_trans hlt (h1 z hz)
    · split
      · exact h
      · refine List.pairwise_cons.mpr ⟨fun z hz => ?_, insU_sorted x h2⟩
        rcases (insU_mem x z ys).mp hz with rfl | hz
        · omega
        · exact h1 z hz
theorem usort_sorted : ∀ xs, (usort xs).Pairwise (· < ·)
  | [] => .nil
  | x :: xs => insU_sorted x (usort_sorted xs)
theorem usort_uniq {xs ys : List Int} (h : ys.Pairwise (· < ·)) (m : ∀ z, z ∈ ys ↔ z ∈ xs) : ys = usort xs := by
  have n1 : ys.Nodup := h.imp fun {a b} z => by omega
  have n2 : (usort xs).Nodup := (usort_sorted xs).imp fun {a b} z => by omega
  have p : ys.Perm (usort xs) := (List.perm_ext_iff_of_nodup n1 n2).mpr fun z => by rw [m, usort_mem]
  exact List.Perm.eq_of_pairwise (le := fun a b => a < b) (fun a b _ _ h1 h2 => by omega) h (usort_sorted xs) p
section
variable {T : List (Addr × Str)} {σ : L2.St} {S : List Addr} {G G' H H' H1 : Hp} {K : PySem.W.Frag} {ta : TE} {w : World}
theorem en_sortSet {te : TE} {xs : List Int} (hl : xs.length ≤ 60) (h : ∀ S H1, Sg T G S H1 → ∀ Q : VK, (∀ a n H2, Le T H1 H2 → H2 a = none → n ≤ xs.length → Q (.ref a) (upd H2 a (SetO w a (fun j => decide (j ∈ xs)) n))) → te σ H1 Q) : EvN T (tCB (rSortedSet w) (tCons te tNil)) σ G (usort xs) := en_new fun S H1 s Q q =>
  h S H1 s _ fun a n H2 e2 ha hn => by
    refine ⟨a, _, n, rfl, upd_same, by omega, fun ns p hs hm hlen hp => ?_⟩
    have e := usort_uniq (xs := xs) hs fun z => by rw [hm z, decide_eq_true_eq]
    subst e
    exact q p _ _ (e2.trans (.new ha)) hp (repAll_ints _)
theorem en_sortSetT {xs : Tup Int} (ha : EvR T ta σ G xs) (hl : xs.items.length ≤ 60) : EvN T (tCB (rSortedSet w) (tCons (tCB (rSetI w K) (tCons ta tNil)) tNil)) σ G (usort xs.items) := en_sortSet hl fun S H1 s Q q => ha S H1 s _ fun v H2 e2 r2 => by
  obtain ⟨a, rfl, e⟩ := of_tupI r2
  exact ⟨a, xs.items, rfl, .inl (.of (hd_some e).1), hl, fun p n hp hn => q p n H2 e2 hp hn⟩
theorem en_sortSetL {xs : List Int} (ha : EvR T ta σ G xs) (hl : xs.length ≤ 60) : EvN T (tCB (rSortedSet w) (tCons (tCB (rSetI w K) (tCons ta tNil)) tNil)) σ G (usort xs) := en_sortSet hl fun S H1 s Q q => ha S H1 s _ fun v H2 e2 r2 => by
  obtain ⟨a, vs, rfl, hL, hA⟩ := of_lst r2
  rw [hA.ints] at hL
  exact ⟨a, xs, rfl, .inr (.of (hd_some hL).1), hl, fun p n hp hn => q p n H2 e2 hp hn⟩
end
end K4
end
section
set_option Elab.async false
set_option linter.all false
set_option maxRecDepth 100000
set_option maxHeartbeats 4000000
namespace K4
open PySem PySem.Spec PyProof.Rows L2 PySem.W
section
variable {X : Cx}
/-- y = {k: v for ..}, y a plain local name, the keys tuples -/
theorem ps_setDcT {i : Nat} {y : Str} {py : Pos} {kx vx tg iter : Expr} {ifs : List Expr} {scope : Scope} {own : List (Str × Nat)} {pos spos : Pos} {wi : L2.TI} {g : TG} {tt : TT} {tk tv : TE} (hu : X.A.units + 1 < cLine) (hc : X.calm = true) (hN : X.N.Nodup) (hy : X.N[i]? = some y) (hyl : X.env.scope.names.lookup y = some .local)
    (hsw : swapsWith (.DictComp kx vx [⟨tg, iter, ifs, 0⟩] scope pos) (some (.Name y py)) spos.line X.env = pure true) (hi : PI X tg iter wi) (ok : BlkOk X.N X.env.scope scope own)
    (hg : ∀ (s : Shared) (H : Hp) (C : Addr) (cl : List (Str × Addr)) (fp : List Addr), PG (X.blk s H scope (compEnvC scope cl C X.env) fp) tg g) (ht : ∀ (s : Shared) (H : Hp) (C : Addr) (cl : List (Str × Addr)) (fp : List Addr), PTs (X.blk s H scope (compEnvC scope cl C X.env) fp) ifs tt)
    (hk : ∀ (s : Shared) (H : Hp) (C : Addr) (cl : List (Str × Addr)) (fp : List Addr), PE (X.blk s H scope (compEnvC scope cl C X.env) fp) kx tk)
    (he : ∀ (s : Shared) (H : Hp) (C : Addr) (cl : List (Str × Addr)) (fp : List Addr), PE (X.blk s H scope (compEnvC scope cl C X.env) fp) vx tv) (hs : ∀ x, foldedSetIterable iter X.env x = pure x := by intro _; rfl) :
    PS X (.Assign [.Name y py] (.DictComp kx vx [⟨tg, iter, ifs, 0⟩] scope pos) spos) (tAsg (tDcT wi g tt tk tv (own.map (·.2))) (gName i)) := by
  refine ⟨fun pins s σ H D I h => ?_⟩
  rw [exec_Assign_Name_used _ _ _ _ hsw]
  refine wpAny_bind (wpAny_standAt (wpAny_bind ?_))
  show wpAny _ X.A (do let _ ← comprehension (.DictComp kx vx [⟨tg, iter, ifs, 0⟩] scope pos) scope X.env (firstIterPos [⟨tg, iter, ifs, 0⟩] pos) newDict false (eval iter X.env) (some (assign (.Name y py) X.env))) _ _ s
  have h : tDcT wi g tt tk tv (own.map (·.2)) σ H (fun x H1 => gName i x σ H1 D.nx) := h
  refine wpAny_bind (thn (dcT_core (Qf := fun _ s' => SP X pins D .next s') hu hc hN I hi ok hg ht hk he hs h fun L C s' m H' I' q hn f => ?_) fun _ s' hq => wpAny_pure (wpAny_pure hq))
  show wpAny _ _ (assign (.Name y py) X.env (.ref L)) _ _ _
  obtain ⟨f0, f1, f2, f3, f4, f5⟩ := f
  refine wpAny_assign_Name (store_ok2 (v := V.ref L) I' hN hy (.inl hyl) rfl (fun s2 I2 ⟨a, sb, ha⟩ => ?_) (.inr hyl))
  have haC : C ≠ a := by
    rcases ha with z | z
    · rw [z]; exact f1
    · exact fun e => f4 y a z e.symm
  exact ⟨m, hn.sameBut sb haC, fun h3 sb3 => ⟨_, H', I2.turned (t' := s2.toks) (fun b o hb e => (sb3.2 b hb).trans e) f0 f1 f3 f4 f5, q⟩⟩
theorem sw_trueD {kx vx : Expr} {gs : List Comprehension} {scope : Scope} {pos py : Pos} {y : Str} {l : Nat} {env : Env} (hk : env.scope.kind = .function) (hy : env.scope.names.lookup y = some .local) (hl : (py.line == pos.line) = true)
    (ha : (scope.names.any fun (n, k) => n == y && (k == .local || k == .cell)) = false) : swapsWith (.DictComp kx vx gs scope pos) (some (.Name y py)) l env = pure true := by
  have ky : env.kindOf y = some .local := hy
  have hb : env.blockKind = .function := by unfold Env.blockKind; rw [hk]; rfl
  unfold swapsWith
  simp only [hb, ky, ha, Expr.pos, hl]
  rfl
/-- an expression that is read in one of two ways -/
theorem pe_two {e : Expr} {t1 t2 : TE} (h1 : PE X e t1) (h2 : PE X e t2) : PE X e (fun σ H Q => t1 σ H Q ∨ t2 σ H Q) := by
  refine ⟨fun pins s σ H Q I h => ?_⟩
  rcases h with h | h
  · exact h1.run pins s σ H Q I h
  · exact h2.run pins s σ H Q I h
end
section
variable {T : List (Addr × Str)} {σ : L2.St} {S : List Addr} {G G' H H' H1 : Hp} {K : PySem.W.Frag} {α β γ : Type} [DecidableEq α] [Datum α] [DecidableEq β] [Datum β] {te : TE}
theorem et_yes : EvT T tYes σ G true := fun S H1 s Q q => q H1 .same
theorem en_map {wi : L2.TI} {g : TG} {vs : List Nat} {xs : List α} (f : α → β) (hsrc : Src T wi σ G xs) (gm : Tgm g) (hz : xs.length ≤ 90000)
    (he : ∀ x, x ∈ xs → ∀ v S H, Sg T G S H → Rep (hd S H) v x → g v (wipe σ vs) H fun σ2 H2 => H2 = H ∧ wipe σ2 vs = wipe σ vs ∧ EvR T te σ2 (hd S H) (f x)) : EvN T (tLc wi g tYes te vs) σ G (xs.map f) := by
  have h := en_lc (tt := tYes) (te := te) (σ := σ) (G := G) (fun _ => true) f hsrc gm hz fun x hx v S H s r => gm _ _ _ _ _ (fun σ2 H2 ⟨h1, h2, h3⟩ => ⟨h1, h2, et_yes, fun _ => h3⟩) (he x hx v S H s r)
  have e : xs.filter (fun _ => true) = xs := List.filter_eq_self.mpr fun _ _ => rfl
  rw [e] at h
  exact h
theorem s_par {γ : Type} [DecidableEq γ] [Datum γ] {ta tb : TE} {x : α} {y : β} {i j : Nat} {D : Ends} (s : Sg T G S H) (ha : EvR T ta σ G x) (hb : EvR T tb σ G y) (k : ∀ v u H1, Le T H H1 → Rep (hd S H1) v x → Rep (hd S H1) u y → D.nx ((σ.set i (some v)).set j (some u)) H1) : tPar i j (tCons ta (tCons tb tNil)) D σ H :=
  ha S H s _ fun v H1 e1 r1 => hb S H1 (s.go e1) _ fun u H2 e2 r2 => ⟨v, u, rfl, k v u H2 (e1.trans e2) (r1.le (e2.hd (s.go e1).dom)) r2⟩
theorem q_par {ta tb : TE} {x : α} {y : β} {i j : Nat} {D : Ends} {tz : TS} (s : Sg T G S H) (ha : EvR T ta σ G x) (hb : EvR T tb σ G y) (k : ∀ v u H1, Le T H H1 → Rep (hd S H1) v x → Rep (hd S H1) u y → tz D ((σ.set i (some v)).set j (some u)) H1) : tSeq (tPar i j (tCons ta (tCons tb tNil))) tz D σ H := s_par (γ := Int) (D := { D with nx := tz D }) s ha hb k
end
end K4
end
section
set_option Elab.async false
set_option linter.all false
set_option maxRecDepth 100000
set_option maxHeartbeats 4000000
namespace K4
open PySem PySem.Spec PyProof.Rows L2 PySem.W
/-! ### a list or a tuple of ints -/
def RepS (H : Hp) (v : V) (xs : List Int) : Prop := Rep H v xs ∨ Rep H v (Tup.mk xs)
theorem RepS.le {T : List (Addr × Str)} {H H' : Hp} {v : V} {xs : List Int} (h : RepS H v xs) (e : Le T H H') : RepS H' v xs := h.imp (·.le e) (·.le e)
def iSeq (K : PySem.W.Frag) (te : TE) : L2.TI := fun σ H R => iList K te σ H R ∨ iTup K te σ H R
theorem pi_seq {X : Cx} {tg e : Expr} {te : TE} (he : PE X e te) : PI X tg e (iSeq X.K te) := by
  refine ⟨fun pins s σ H R I h => ?_⟩
  rcases h with h | h
  · exact (pi_list he).run pins s σ H R I h
  · exact (pi_tup he).run pins s σ H R I h
section
variable {T : List (Addr × Str)} {σ : L2.St} {S : List Addr} {G G' H H' H1 : Hp} {K : PySem.W.Frag} {α β γ δ ε : Type} [DecidableEq α] [Datum α] [DecidableEq β] [Datum β] [DecidableEq γ] [Datum γ] [DecidableEq δ] [Datum δ] [DecidableEq ε] [Datum ε]
  {te ta tb tc td : TE} {x : α} {y : β} {z : γ} {v : V} {n : Nat} {i : Int} {xs : List Int}
theorem sr_seq (hn : σ[n]? = some (some v)) (h : RepS G v xs) : Src T (iSeq K (tVar n)) σ G xs := fun S H1 s R q => by
  rcases h with h | h
  · exact .inl (sr_list (ev_var hn h) S H1 s R q)
  · exact .inr (sr_tup (ev_var hn h) S H1 s R q)
def EvS (T : List (Addr × Str)) (te : TE) (σ : L2.St) (G : Hp) (xs : List Int) : Prop := ∀ S H1, Sg T G S H1 → ∀ Q : VK, (∀ v H2, Le T H1 H2 → RepS (hd S H2) v xs → Q v H2) → te σ H1 Q
theorem es_list (h : EvR T te σ G xs) : EvS T te σ G xs := fun S H1 s Q q => h S H1 s Q fun v H2 e r => q v H2 e (.inl r)
theorem es_tup {t : Tup Int} (h : EvR T te σ G t) : EvS T te σ G t.items := fun S H1 s Q q => h S H1 s Q fun v H2 e r => q v H2 e (.inr r)
theorem es_var (hn : σ[n]? = some (some v)) (h : RepS G v xs) : EvS T (tVar n) σ G xs := fun S H1 s Q q => ⟨v, hn, q v H1 .same (h.le s.le)⟩
def Pu3s (T : List (Addr × Str)) (P : α → β → List Int → Prop) (f : α → β → List Int → δ) : Sp := fun vs H Q _ => ∃ S v u w x y z, Dom S H ∧ vs = [v, u, w] ∧ Rep (hd S H) v x ∧ Rep (hd S H) u y ∧ RepS (hd S H) w z ∧ P x y z ∧ ∀ r H', Le T H H' → Rep (hd S H') r (f x y z) → Q r H'
def Pu4s (T : List (Addr × Str)) (P : α → β → γ → List Int → Prop) (f : α → β → γ → List Int → δ) : Sp := fun vs H Q _ => ∃ S v u w t x y z q, Dom S H ∧ vs = [v, u, w, t] ∧ Rep (hd S H) v x ∧ Rep (hd S H) u y ∧ Rep (hd S H) w z ∧ RepS (hd S H) t q ∧ P x y z q ∧ ∀ r H', Le T H H' → Rep (hd S H') r (f x y z q) → Q r H'
theorem ev_call3s {P : α → β → List Int → Prop} {f : α → β → List Int → δ} (h1 : EvR T ta σ G x) (h2 : EvR T tb σ G y) (h3 : EvS T tc σ G xs) (p : P x y xs) : EvR T (tCall (Pu3s T P f) [] E0 (tCons ta (tCons tb (tCons tc tNil)))) σ G (f x y xs) := fun S H1 s Q q =>
  h1 S H1 s _ fun v H2 e2 r2 => h2 S H2 (s.go e2) _ fun u H3 e3 r3 => h3 S H3 (s.go (e2.trans e3)) _ fun t H4 e4 r4 =>
    ⟨S, v, u, t, x, y, xs, (s.go ((e2.trans e3).trans e4)).dom, rfl, r2.le ((e3.trans e4).hd (s.go e2).dom), r3.le (e4.hd (s.go (e2.trans e3)).dom), r4, p, fun w H5 e5 r5 => q w H5 (((e2.trans e3).trans e4).trans e5) r5⟩
theorem ev_call4s {P : α → β → γ → List Int → Prop} {f : α → β → γ → List Int → δ} (h1 : EvR T ta σ G x) (h2 : EvR T tb σ G y) (h3 : EvR T tc σ G z) (h4 : EvS T td σ G xs) (p : P x y z xs) :
    EvR T (tCall (Pu4s T P f) [] E0 (tCons ta (tCons tb (tCons tc (tCons td tNil))))) σ G (f x y z xs) := fun S H1 s Q q =>
  h1 S H1 s _ fun v H2 e2 r2 => h2 S H2 (s.go e2) _ fun u H3 e3 r3 => h3 S H3 (s.go (e2.trans e3)) _ fun t H4 e4 r4 => h4 S H4 (s.go ((e2.trans e3).trans e4)) _ fun t' H5 e5 r5 =>
    ⟨S, v, u, t, t', x, y, z, xs, (s.go (((e2.trans e3).trans e4).trans e5)).dom, rfl, r2.le (((e3.trans e4).trans e5).hd (s.go e2).dom), r3.le ((e4.trans e5).hd (s.go (e2.trans e3)).dom), r4.le (e5.hd (s.go ((e2.trans e3).trans e4)).dom), r5, p,
      fun w' H6 e6 r6 => q w' H6 ((((e2.trans e3).trans e4).trans e5).trans e6) r6⟩
theorem Pu3s.len {P : α → β → List Int → Prop} {f : α → β → List Int → δ} {ps : List Str} (h : ps.length = 3) : ∀ vs H Q E, Pu3s T P f vs H Q E → vs.length = ps.length := fun vs H Q E q => by
  obtain ⟨S, v, u, w, x, y, z, _, rfl, _⟩ := q
  exact h.symm
theorem Pu4s.len {P : α → β → γ → List Int → Prop} {f : α → β → γ → List Int → δ} {ps : List Str} (h : ps.length = 4) : ∀ vs H Q E, Pu4s T P f vs H Q E → vs.length = ps.length := fun vs H Q E q => by
  obtain ⟨S, v, u, w, t, x, y, z, r, _, rfl, _⟩ := q
  exact h.symm
theorem Pu3x.len {P : α → β → γ → Prop} {f : α → β → γ → δ} {ps : List Str} (h : ps.length = 3) : ∀ vs H Q E, Pu3x T P f vs H Q E → vs.length = ps.length := fun vs H Q E q => by
  obtain ⟨S, v, u, w, x, y, z, _, rfl, _⟩ := q
  exact h.symm
theorem Pu4x.len {P : α → β → γ → δ → Prop} {f : α → β → γ → δ → ε} {ps : List Str} (h : ps.length = 4) : ∀ vs H Q E, Pu4x T P f vs H Q E → vs.length = ps.length := fun vs H Q E q => by
  obtain ⟨S, v, u, w, t, x, y, z, r, _, rfl, _⟩ := q
  exact h.symm
theorem en_sortSetS {w : World} {a : Nat} (hn : σ[a]? = some (some v)) (h : RepS G v xs) (hl : xs.length ≤ 60) : EvN T (tCB (rSortedSet w) (tCons (tCB (rSetI w K) (tCons (tVar a) tNil)) tNil)) σ G (usort xs) := by
  rcases h with h | h
  · exact en_sortSetL (ev_var hn h) hl
  · exact en_sortSetT (xs := Tup.mk xs) (ev_var hn h) hl
theorem q_if1 {t : TT} {tu tz : TS} {D : Ends} {b : Bool} (s : Sg T G S H) (h : EvT T t σ G b) (h1 : b = true → ∀ H1, Le T H H1 → tu { D with nx := tz D } σ H1) (h2 : b = false → ∀ H1, Le T H H1 → tz D σ H1) : tSeq (tIfS t tu tNext) tz D σ H := q_if s h h1 h2
theorem s_if1 {t : TT} {tu : TS} {D : Ends} {b : Bool} (s : Sg T G S H) (h : EvT T t σ G b) (h1 : b = true → ∀ H1, Le T H H1 → tu D σ H1) (h2 : b = false → ∀ H1, Le T H H1 → D.nx σ H1) : tIfS t tu tNext D σ H := s_if s h h1 h2
end
end K4
end
section
set_option Elab.async false
set_option linter.all false
set_option maxRecDepth 100000
set_option maxHeartbeats 4000000
namespace K4
open PySem PySem.Spec PyProof.Rows L2 PySem.W
section
variable {T : List (Addr × Str)} {σ : L2.St} {S : List Addr} {G G' H H' H1 : Hp} {K : PySem.W.Frag} {β : Type} [DecidableEq β] [Datum β] [AtV β] {n : Nat} {p : Addr}
theorem sr_keysI {m : List (Int × β)} {o : Obj} (hn : σ[n]? = some (some (.ref p))) (hm : G p = some (.frz o (.dK (m.map kI)))) : Src T (iKeys (tVar n)) σ G (m.map (·.1)) := fun S H1 s R q => by
  have hp := s.rd hm trivial
  have hpn := (hd_some (s.le.soft hm trivial)).2
  have hg : hd S H1 p = some (.frz o (.dK (m.map kI))) := by rw [hd_out hpn]; exact hp
  refine ⟨.ref p, hn, p, o, rfl, .inl ⟨_, hp, q _ H1 .same fun S' H3 s3 i => ⟨fun x hx => ?_, fun hi => ⟨s3.rd hg trivial, by rw [List.length_map] at hi ⊢; exact hi⟩⟩⟩⟩
  have h3 := s3.rd hg trivial
  rw [List.getElem?_map] at hx
  cases he : m[i]? with
  | none => rw [he] at hx; cases hx
  | some e =>
    rw [he] at hx
    cases hx
    have hlt := (List.getElem?_eq_some_iff.mp he).1
    refine ⟨⟨h3, by rw [List.length_map]; exact hlt⟩, fun v H' y => ?_⟩
    obtain ⟨rfl, k, w, hkv, rfl⟩ := y
    rw [List.getElem?_map, he] at hkv
    cases hkv
    exact ⟨.same, rep_int⟩
/-- a list of ints made while a dict is locked -/
theorem en_lockI {t : TE} {u : HO} {xs : List Int} (mu : Mut (some u)) (su : Soft u) (hm : G p = some u) (h : ∀ od S H1, Sg T G S H1 → EvN T t σ (hd S (upd H1 p (.frz od u))) xs) : EvN T (tLockE t) σ G xs := fun S H1 s Q q => by
  have e : EvO T (tLockE t) σ G (.lst (xs.map V.int)) := eo_lock trivial mu su hm fun od S H1 s S2 H2 s2 Q2 q2 => h od S H1 s S2 H2 s2 Q2 fun p vs H3 n e2 le2 hp hr => q2 p H3 n e2 le2 (by rw [← hr.ints]; exact hp)
  exact e S H1 s Q fun p H2 n e2 le2 hp => q p _ H2 n e2 le2 hp (repAll_ints _)
end
end K4
end
section
set_option Elab.async false
set_option linter.all false
set_option maxRecDepth 100000
set_option maxHeartbeats 4000000
namespace K4
open PySem PySem.Spec PyProof.Rows L2 PySem.W
section
variable {T : List (Addr × Str)} {σ : L2.St} {S : List Addr} {G G' H H' H1 : Hp} {K : PySem.W.Frag} {α β γ δ : Type} [DecidableEq α] [Datum α] [KeyL α] [DecidableEq γ] [Datum γ] {te ta : TE} {n : Nat} {p : Addr}
/-- a promise on a dict: it is read -/
def PuD1 (T : List (Addr × Str)) (P : List (α × Int) → Prop) (f : List (α × Int) → γ) : Sp := fun vs H Q _ => ∃ S p m, Dom S H ∧ vs = [.ref p] ∧ IsDT (hd S H) p m ∧ P m ∧ LamX.Tabs T H ∧ ∀ r H', Le T H H' → Rep (hd S H') r (f m) → Q r H'
theorem PuD1.len {P : List (α × Int) → Prop} {f : List (α × Int) → γ} {ps : List Str} (h : ps.length = 1) : ∀ vs H Q E, PuD1 T P f vs H Q E → vs.length = ps.length := fun vs H Q E q => by
  obtain ⟨S, p, m, _, rfl, _⟩ := q
  exact h.symm
theorem ev_callD {P : List (α × Int) → Prop} {f : List (α × Int) → γ} {m : List (α × Int)} (gt : GT T G) (h : EvO T ta σ G (.dT (m.map kE))) (p : P m) : EvR T (tCall (PuD1 T P f) [] E0 (tCons ta tNil)) σ G (f m) := fun S H1 s Q q =>
  h S H1 s _ fun d H2 nd e2 le2 hd2 => ⟨S, d, m, (s.go e2).dom, rfl, by show hd S H2 d = _; rw [hd_out nd]; exact hd2, p, (s.go e2).tabs gt, fun r H3 e3 r3 => q r H3 (e2.trans e3) r3⟩
theorem ev_callDv {P : List (α × Int) → Prop} {f : List (α × Int) → γ} {m : List (α × Int)} (gt : GT T G) (hn : σ[n]? = some (some (.ref p))) (hm : IsDT G p m) (pp : P m) : EvR T (tCall (PuD1 T P f) [] E0 (tCons (tVar n) tNil)) σ G (f m) := fun S H1 s Q q =>
  ⟨.ref p, hn, S, p, m, s.dom, rfl, s.le.soft hm trivial, pp, s.tabs gt, fun r H3 e3 r3 => q r H3 e3 r3⟩
/-- the same for dicts of flags -/
def PuD1b (T : List (Addr × Str)) (P : List (α × Bool) → Prop) (f : List (α × Bool) → γ) : Sp := fun vs H Q _ => ∃ S p m, Dom S H ∧ vs = [.ref p] ∧ IsDT (hd S H) p m ∧ P m ∧ LamX.Tabs T H ∧ ∀ r H', Le T H H' → Rep (hd S H') r (f m) → Q r H'
/-- what is known stands when the dict is locked -/
theorem rep_lock {x : γ} {v : V} {w : HO} (np : p ∉ S) (h : Rep (hd (p :: S) H) v x) : Rep (hd S (upd H p w)) v x := h.le (le_lock (T := []) np)
/-- a promise on tables -/
theorem GT.le (h : GT T G) (e : Le T G G') : GT T G' := e.tab h
theorem GT.of (h : LamX.Tabs T H) (dom : Dom S H) : GT T (hd S H) := fun q hq => by
  obtain ⟨ps, h1, h2, h3⟩ := h q hq
  refine ⟨ps, ?_, h2, fun pos cv hc => ?_⟩
  · rw [hd_out fun m => ?_]
    · exact h1
    · obtain ⟨o, ho, so⟩ := dom _ m
      rw [h1] at ho
      cases ho
      exact so
  · obtain ⟨c, e1, e2⟩ := h3 pos cv hc
    refine ⟨c, e1, ?_⟩
    rw [hd_out fun m => ?_]
    · exact e2
    · obtain ⟨o, ho, so⟩ := dom _ m
      rw [e2] at ho
      cases ho
      exact so
theorem ev_lenP {α' β' : Type} [DecidableEq α'] [Datum α'] [DecidableEq β'] [Datum β'] {x : α' × β'} (ha : EvR T ta σ G x) : EvR T (tCB (rLenS K) (tCons ta tNil)) σ G (2 : Int) := ev_cb1 ha fun v S H1 Q h _ q => by
  obtain ⟨a, vx, vy, rfl, hL, _, _⟩ := of_pair h
  exact ⟨a, _, rfl, .inr (.inl (hd_rd hL)), q _ _ .same rep_int⟩
/-- over a tuple -/
theorem q_forT {α' : Type} [DecidableEq α'] [Datum α'] {tl : TE} {g : TG} {tu tz : TS} {D : Ends} {xs : Tup α'} (s : Sg T G S H) (h : EvR T tl σ G xs) (Pv : Hp → Nat → L2.St → Hp → Prop) (h0 : ∀ H1, Le T H H1 → Pv H1 0 σ H1) (hl : ∀ H1 i σ' H', Pv H1 i σ' H' → ∃ S', Sg T (hd S H1) S' H')
    (hs : ∀ H1 i x v σ' H' H'', Le T H H1 → xs.items[i]? = some x → Pv H1 i σ' H' → Le T H' H'' → (∀ S', Sg T (hd S H1) S' H' → Rep (hd S' H'') v x) → g v σ' H'' fun σ2 H2 => tu { nx := Pv H1 (i + 1), rt := D.rt, ct := Pv H1 (i + 1), bk := tz D } σ2 H2) (hd' : ∀ H1 σ' H', Le T H H1 → Pv H1 xs.items.length σ' H' → tz D σ' H') : tSeq (tFor (iTup K tl) g tu) tz D σ H :=
  s_forS (D := { D with nx := tz D }) s (sr_tup h) Pv h0 hl hs hd'
theorem q_forL {α' : Type} [DecidableEq α'] [Datum α'] {tl : TE} {g : TG} {tu tz : TS} {D : Ends} {xs : List α'} (s : Sg T G S H) (h : EvR T tl σ G xs) (Pv : Hp → Nat → L2.St → Hp → Prop) (h0 : ∀ H1, Le T H H1 → Pv H1 0 σ H1) (hl : ∀ H1 i σ' H', Pv H1 i σ' H' → ∃ S', Sg T (hd S H1) S' H')
    (hs : ∀ H1 i x v σ' H' H'', Le T H H1 → xs[i]? = some x → Pv H1 i σ' H' → Le T H' H'' → (∀ S', Sg T (hd S H1) S' H' → Rep (hd S' H'') v x) → g v σ' H'' fun σ2 H2 => tu { nx := Pv H1 (i + 1), rt := D.rt, ct := Pv H1 (i + 1), bk := tz D } σ2 H2) (hd' : ∀ H1 σ' H', Le T H H1 → Pv H1 xs.length σ' H' → tz D σ' H') : tSeq (tFor (iList K tl) g tu) tz D σ H :=
  s_forS (D := { D with nx := tz D }) s (sr_list h) Pv h0 hl hs hd'
end
end K4
end
section
set_option Elab.async false
set_option linter.all false
set_option maxRecDepth 100000
set_option maxHeartbeats 4000000
/-! sorted(found.items(), key=lambda pair: -pair[0][0] * (low // pair[0][1])) -/
namespace K4
open PySem PySem.Spec PyProof.Rows L2 PySem.W
section
variable {prog : Program} {w : World} {A : Around} {E : Value → Shared → Prop} {s : Shared} {env : Env}
/-- t[k], t a tuple -/
theorem sub_tup {e : Expr} {k : Int} {i : Nat} {p1 pos : Pos} {Q : Value → Shared → Prop} (h : wpAny (model prog w) A (eval e env) (fun v s1 => ∃ t items x j, v = .ref t ∧ IsTup s1.heap t items ∧ 0 ≤ k ∧ k < 100 ∧ j = k.toNat ∧ items[j]? = some x ∧ ∀ tk, Q x { s1 with toks := tk }) E s) :
    wpAny (model prog w) A (eval (.Subscript e (.Constant (.int k) i p1) pos) env) Q E s := by
  refine Subscript_ (wpAny_mono h (fun v s1 hv => ?_) fun _ _ x => x)
  obtain ⟨t, items, x, j, rfl, ht, h0, h1, rfl, hx, q⟩ := hv
  refine wpAny_Constant_int ?_
  have hj : k.toNat < items.size := by
    have := (Array.getElem?_eq_some_iff.mp hx).1
    exact this
  exact subscriptTail_builtinR (s := { s1 with toks := s1.toks + 1 }) (x := x) ht.typeIs slot_tuple_getitem.lookup
    (getItem_tuple (s := { s1 with toks := s1.toks + 1 }) (j := k.toNat) (Q := fun r s' => r = x ∧ Q r s') ht (by omega) (by omega) (seqIndex_of h0 (by omega)) hx ⟨rfl, q _⟩)
abbrev keyB (p1 p2 p3 p4 p5 p6 p7 p8 p9 q1 q2 q3 q4 q5 q6 : Pos) (k1 k2 k3 k4 : Nat) : Expr :=
  .BinOp (.UnaryOp .USub (.Subscript (.Subscript (.Name "pair" p1) (.Constant (.int 0) k1 p2) p3) (.Constant (.int 0) k2 p4) p5) p6) .Mult
    (.BinOp (.Name "low" p7) .FloorDiv (.Subscript (.Subscript (.Name "pair" p8) (.Constant (.int 0) k3 p9) q1) (.Constant (.int 1) k4 q2) q3) q4) q5
/-- the key of the value n / d -/
def keyN (low n d : Int) : Int := -n * (low / d)
theorem key_eval {c b kq : Addr} {low n d : Int} {tl tn td : Tok} {val : Value} {p1 p2 p3 p4 p5 p6 p7 p8 p9 q1 q2 q3 q4 q5 q6 : Pos} {k1 k2 k3 k4 : Nat} {m : Str → Option Value} {Q : Value → Shared → Prop}
    (hk : env.scope.kind = .function) (kp : env.kindOf "pair" = some .local) (kl : env.kindOf "low" = some .free) (hn : s.heap.Ns env.locals m) (hm : m "pair" = some (.ref b)) (hc : env.cells.lookup ("low" : Str) = some c) (hcell : s.heap.IsCell c (some (.int low tl)))
    (hb : IsTup s.heap b #[.ref kq, val]) (hkq : IsTup s.heap kq #[.int n tn, .int d td]) (hd : 0 < d) (hd2 : CDivW low d) (hmul : CMul (-n) (low / d)) (h : ∀ tk tk', Q (.int (keyN low n d) tk) { s with toks := tk' }) :
    wpAny (model prog w) A (eval (keyB p1 p2 p3 p4 p5 p6 p7 p8 p9 q1 q2 q3 q4 q5 q6 k1 k2 k3 k4) env) Q E s := by
  refine wpAny_BinOp (wpAny_UnaryOp (sub_tup (sub_tup (wpAny_Name (wpAny_loadName_local hk kp hn hm ⟨b, _, _, 0, rfl, hb, by omega, by omega, rfl, rfl, fun tk => ⟨kq, _, _, 0, rfl, hkq, by omega, by omega, rfl, rfl, fun tk2 => ?_⟩⟩)))))
  refine P.neg_int ?_
  refine wpAny_BinOp (wpAny_Name (wpAny_loadName_free hk kl hc hcell ?_))
  refine sub_tup (sub_tup (wpAny_Name (wpAny_loadName_local hk kp hn hm ⟨b, _, _, 0, rfl, hb, by omega, by omega, rfl, rfl, fun tk => ⟨kq, _, _, 1, rfl, hkq, by omega, by omega, rfl, rfl, fun tk2 => ?_⟩⟩)))
  refine floordiv_int (by omega) ?_ (.inl (PyProof.noPylong_of_log2 hd2.2))
  rw [Int.fdiv_eq_ediv_of_nonneg low (by omega)]
  exact mul_int (h _ _) hmul.ok
end
abbrev lamP (pp : Pos) : Arguments := { posonlyargs := [], args := [{ arg := "pair", annotation := none, pos := pp }], vararg := none, kwonlyargs := [], kw_defaults := [], kwarg := none, defaults := [] }
abbrev lamSc : Scope := { kind := .function, names := [("pair", .local), ("low", .free)], isGenerator := false, isCoroutine := false }
theorem lam_nocell : ∀ x ∈ lamSc.names, x.2 ≠ .cell := by decide +kernel
theorem lam_pair : lamSc.names.lookup ("pair" : Str) = some .local := by decide +kernel
theorem lam_low : lamSc.names.lookup ("low" : Str) = some .free := by decide +kernel
theorem key_call {prog : Program} {w : World} {A : Around} {s : Shared} {f c' c b kq : Addr} {q : Str} {pm ctv : Value} {oc : Obj} {vs : Array Value} {tq : Tok} {low n d : Int} {tl tn td : Tok} {val : Value} {pp p1 p2 p3 p4 p5 p6 p7 p8 p9 q1 q2 q3 q4 q5 q6 : Pos} {k1 k2 k3 k4 : Nat}
    (hr : A.depth < recursionLimit) (hlim : s.heap.NoLimit) (ho : s.heap.get? f = some (PySem.W.kla_obj "<lambda>" q (lamP pp) (keyB p1 p2 p3 p4 p5 p6 p7 p8 p9 q1 q2 q3 q4 q5 q6 k1 k2 k3 k4) lamSc [("low", c)] pm c' ctv))
    (hoc : s.heap.get? c' = some oc) (hdc : oc.data = .fields vs) (hvc : vs[1]? = some (.str q tq)) (hcell : s.heap.IsCell c (some (.int low tl)))
    (hb : IsTup s.heap b #[.ref kq, val]) (hkq : IsTup s.heap kq #[.int n tn, .int d td]) (hd : 0 < d) (hd2 : CDivW low d) (hmul : CMul (-n) (low / d)) :
    wpAny (model prog w) A (call (.ref f) [.ref b]) (KeyPure (.int (keyN low n d)) s) (fun _ _ => False) s := by
  refine wpAny_call (PySem.W.kla_callFunE hr ho rfl rfl rfl rfl ⟨c', oc, vs, tq, rfl, hoc, hdc, hvc⟩ ?_)
  have hbind : bindArgs (PySem.W.kla_fn "<lambda>" q (lamP pp) (keyB p1 p2 p3 p4 p5 p6 p7 p8 p9 q1 q2 q3 q4 q5 q6 k1 k2 k3 k4) lamSc [("low", c)] pm (.ref c') ctv) ⟨[.ref b], []⟩ = (Pure.pure [(("pair" : Str), Value.ref b)] : Sem (List (Str × Value))) := rfl
  rw [hbind]
  refine wpAny_pure (wpAny_newFunctionEnv lam_nocell (fun y hy => ?_) (fun h₁ hns hsb => ⟨hlim.fresh _ hsb, ?_⟩) rfl)
  · have e : y = (("pair" : Str), Value.ref b) := by simpa using hy
    rw [e]
    exact lam_pair
  have kp : ∀ b o, s.heap.get? b = some o → h₁.get? b = some o := fun b o e => hsb.extBut b o (Nat.ne_of_lt (Heap.lt_size e)) (Heap.get?_push_of_some _ e)
  refine PySem.W.kla_codeExpr (key_eval (s := { s with heap := h₁, toks := s.toks + 1 }) (b := b) (kq := kq) (c := c) (low := low) (n := n) (d := d) rfl lam_pair lam_low hns (by rfl) (by rfl) (hcell.keeps kp) (hb.keeps kp) (hkq.keeps kp) hd hd2 hmul fun tk tk' => ?_)
  exact ⟨h₁, tk', rfl, kp, .int _ _⟩
/-- the value, how often -/
abbrev Ent (β : Type) := (Int × Int) × β
def keyE {β : Type} (low : Int) (e : Ent β) : Int := keyN low e.1.1 e.1.2
def tSortKey (β : Type) [DecidableEq β] [Datum β] [AtV β] (T : List (Addr × Str)) (K : PySem.W.Frag) (i j : Nat) : TE := fun σ H Q => ∃ (a : Addr) (ks : List (Ent β)) (low : Int), σ[i]? = some (some (.ref a)) ∧ σ[j]? = some (some (.int low)) ∧ H a = some (.dT (ks.map kE)) ∧ ks.length ≤ 100000 ∧ LamX.Tabs T H ∧
  (∀ e ∈ ks, 0 < e.1.2 ∧ CDivW low e.1.2 ∧ CMul (-e.1.1) (low / e.1.2)) ∧
  ∀ (l : Addr) (us : List V) (H1 : Hp), Le T H H1 → H1 l = some (.lst us) → (∀ S, Dom S H → l ∉ S ∧ RepAll (hd S H1) us (ks.mergeSort fun x y => decide (keyE low x ≤ keyE low y))) → Q (.ref l) H1
theorem all_alike_int {β : Type} (k : β → Int) (bs : List β) : AllAlike (bs.map fun b => PyData.int (k b)) := AllAlike.of fun b b' => rfl
theorem each_idx {β : Type} {R : Value → β → Prop} : ∀ {vs : List Value} {bs : List β}, vs.length = bs.length → (∀ (i : Nat) (v : Value) (b : β), vs[i]? = some v → bs[i]? = some b → R v b) → EachIs R vs bs
  | [], [], _, _ => .nil
  | v :: vs, b :: bs, h, r => .cons (r 0 v b rfl rfl) (each_idx (by simpa using h) fun i u c h1 h2 => r (i + 1) u c (by simpa using h1) (by simpa using h2))
  | [], _ :: _, h, _ => by simp at h
  | _ :: _, [], h, _ => by simp at h
theorem each_refs {β : Type} {R : Value → β → Prop} : ∀ {vs : List Value} {bs : List β}, EachIs R vs bs → (∀ v b, R v b → ∃ t, v = Value.ref t) → ∃ zs : List (Addr × β), vs = zs.map (fun z => Value.ref z.1) ∧ bs = zs.map (·.2) ∧ ∀ z ∈ zs, R (.ref z.1) z.2
  | _, _, .nil, _ => ⟨[], rfl, rfl, fun z h => nomatch h⟩
  | v :: vs, b :: bs, .cons h t, r => by
    obtain ⟨zs, e1, e2, e3⟩ := each_refs t r
    obtain ⟨a, rfl⟩ := r _ _ h
    refine ⟨(a, b) :: zs, by rw [e1] <;> rfl, by rw [e2] <;> rfl, fun z hz => ?_⟩
    rcases List.mem_cons.mp hz with rfl | hz
    · exact h
    · exact e3 z hz
theorem pe_sortKey {β : Type} [DecidableEq β] [Datum β] [AtV β] {X : Cx} {T : List (Addr × Str)} {c P : Addr} {i j : Nat} {q : Str} {ps pf ap cp pp p1 p2 p3 p4 p5 p6 p7 p8 p9 q1 q2 q3 q4 q5 q6 lp kp pos : Pos} {k1 k2 k3 k4 : Nat} (hc : X.calm = true) (hu : X.A.units + 64 < cLine) (hr : X.A.depth < recursionLimit)
    (hfi : X.N[i]? = some ("found" : Str)) (hvi : Vis X.env.scope ("found" : Str)) (hlj : X.N[j]? = some ("low" : Str)) (hlc : X.env.scope.names.lookup ("low" : Str) = some .cell) (hline : (ap.endLine == cp.line) = true) (hg : Gl X "sorted") (hm : X.mg "sorted" = none)
    (hdef : defaultsOf (lamP pp) X.env = ([], [])) (TB : LamX.TabB X.base X.mg c P) (hcode : X.env.code = .ref c) (hq : X.env.qual ++ "<lambda>" = q) (hT : (P, q) ∈ T) (hu2 : ∀ p ∈ T, p.1 = P → p.2 = q) :
    PE X (.Call (.Name "sorted" ps) [.Call (.Attribute (.Name "found" pf) "items" ap) [] [] cp] [{ arg := some "key", value := .Lambda (lamP pp) (keyB p1 p2 p3 p4 p5 p6 p7 p8 p9 q1 q2 q3 q4 q5 q6 k1 k2 k3 k4) lamSc lp, pos := kp }] pos) (tSortKey β T X.K i j) := by
  refine ⟨fun pins s σ H Q I h => ?_⟩
  obtain ⟨a, ks, low, hsi, hsj, ha, hlen, hTa, hke, qq⟩ := h
  subst hq
  obtain ⟨cL, hcL⟩ := I.ok.has "low" (.inl hlc)
  refine wpAny_Call_Name_kw (ld_blt I hg hm (show bootBuiltins ("sorted" : Str) = some (.builtin "sorted") by decide +kernel) ?_)
  refine PyProof.Rows.callWith_kw (Calls.spliced_cons (thn ((pe_bm0 PySem.F.plainAttrs_dict PySem.F.slot_dict_items PySem.F.type_dict_items DX.mt_itemsT (pv (i := i) hfi hvi) rfl hline).run pins s σ H (fun v H1 => ∃ p, v = .ref p ∧ H p = none ∧ H1 = upd H p (DX.itemsO p a)) I ⟨.ref a, hsi, ?_, a, _, rfl, rfl, ha, fun p hp => ⟨p, rfl, hp, rfl⟩⟩) fun u s1 hu1 => Calls.spliced_nil ?_))
  · exact .inr (.inr (.inl ⟨rfl, .inr ⟨_, ha⟩⟩))
  obtain ⟨v, H1, I1, r1, p, ev, hp, eH⟩ := hu1
  subst ev eH
  cases r1
  have hT1 : LamX.Tabs T (upd H p (DX.itemsO p a)) := hTa.ext fun b o e => by rw [upd_ne (ne_of_none e hp)]; exact e
  have lA : Le T H (upd H p (DX.itemsO p a)) := .new hp
  refine PyProof.Rows.evalAll_cons ?_
  refine wpAny_bind (m := eval (.Lambda (lamP pp) (keyB p1 p2 p3 p4 p5 p6 p7 p8 p9 q1 q2 q3 q4 q5 q6 k1 k2 k3 k4) lamSc lp) X.env) ?_
  refine LamX.lam_make2 I1 TB hcode hT hu2 hT1 hdef (fun y hy e => ?_) fun f c' pm ctv H2 s2 I2 x2 hT2 hf hfn hfr hcO => ?_
  · have e2 : y = (("pair" : Str), NameKind.local) ∨ y = (("low" : Str), NameKind.free) := by simpa using hy
    rcases e2 with rfl | rfl
    · cases e
    · exact ⟨cL, hcL⟩
  refine wpAny_bind (wpAny_standAt (wpAny_pure ?_))
  refine PyProof.Rows.evalAll_nil ?_
  have lB : Le T H H2 := lA.trans ⟨x2, fun _ => hT2⟩
  obtain ⟨mL, hns, hloc⟩ := I2.loc
  obtain ⟨uL, ruL, lkL⟩ := hloc j "low" (.int low) hlj hsj (.inr (.inl hlc))
  have hcell : ∃ tl, s2.heap.IsCell cL (some (.int low tl)) := by
    obtain ⟨tl, rfl⟩ := ruL
    rcases lkL with ⟨k', _⟩ | ⟨_, c3, e', z⟩
    · have k2 : X.env.scope.names.lookup ("low" : Str) = some .local := k'
      rw [hlc] at k2
      cases k2
    · rw [hcL] at e'
      cases e'
      exact ⟨tl, z⟩
  obtain ⟨tl, hcell⟩ := hcell
  have ha2 : H2 a = some (.dT (ks.map kE)) := lB.dT ha
  obtain ⟨z, hd, xs', rel, o, es, ep, ho, hx, hdat, hes, his, hn⟩ := dt_of I2.hok ha2
  have l1 : (ks.map kE).length = xs'.length := Paired.length rel
  rw [List.length_map] at l1
  have l2 : es.size = xs'.length := size_of_entries hes
  have hp2 : H2 p = some (DX.itemsO p a) := x2 p _ upd_same fun ps z => by
    unfold DX.itemsO at z
    cases z
  have view : s2.heap.IsItemsView p a := (show ObjOk X.prog X.w H2 s2.heap p (DX.itemsO p a) from I2.hok p _ hp2).1
  have hh : X.A.handled = none := I2.ok.hd hc
  have hclo : cloFrom X.env.cells lamSc.names [] = [(("low" : Str), cL)] := by
    show cloFrom X.env.cells [(("low" : Str), NameKind.free)] [] = _
    show [(("low" : Str), (X.env.cells.lookup ("low" : Str)).getD 0)] = _
    rw [hcL]
    rfl
  rw [hclo] at hf
  have hsz : es.size ≤ sizeLine := by rw [sizeLine_eq]; omega
  show wpAny (model X.prog X.w) X.A (call (.builtin "sorted") [.ref p] [(Str.ofString "key", .ref f)]) (EP X pins σ Q) X.xe s2
  refine PyProof.Rows.call_function_entry_kw PyProof.Rows.kind_sorted PyProof.Rows.plain_sorted PyProof.Rows.entry_sorted (ksk_s1 _ _) ?_
  unfold Builtin.«sorted»
  refine wpAny_bind (m := checkCount "sorted" 1 1 _) (wpAny_pure ?_)
  refine wpAny_bind (DT.collectI (A := X.A.in1) (es := es) (ep := ep) hh view ⟨o, ho, hx, hdat⟩ hsz fun h' tk as hk hlt hl hG => ?_)
  have lak : as.length = ks.length := by omega
  have nd : as.Nodup := List.Pairwise.imp (fun h => Nat.ne_of_lt h) hG.rise
  have pr : ∀ (j : Nat) (b : Addr), as[j]? = some b → ∃ (e : Ent β) (kq : Addr) (val : Value), ks[j]? = some e ∧ H2 kq = some (.tup [.int e.1.1, .int e.1.2]) ∧ RelV (AtV.vV e.2) val ∧ h'.get? b = some { cls := .type "tuple", data := .seq #[Value.ref kq, val] } := by
    intro j b hj
    obtain ⟨en, he, hg⟩ := hG.pairs j b hj
    rw [entry_at hes j] at he
    cases hxj : xs'[j]? with
    | none =>
      rw [hxj] at he
      exact nomatch (show (none : Option DictEntry) = some en from he)
    | some x =>
      rw [hxj] at he
      have een : entryOfKey (tupleKind (mixKind X.prog X.w)) x = en := Option.some.inj he
      obtain ⟨e0, he0, r1, r2, r3⟩ := DX.pget rel hxj
      rw [List.getElem?_map] at he0
      cases hkj : ks[j]? with
      | none =>
        rw [hkj] at he0
        exact nomatch (show (none : Option (List L2.Key × V)) = some e0 from he0)
      | some e =>
        rw [hkj] at he0
        have ee : kE e = e0 := Option.some.inj he0
        rw [← ee] at r2 r3
        refine ⟨e, x.2.1, x.2.2, rfl, r2, r3, ?_⟩
        rw [hg, ← een]
        rfl
  refine wpAny_bind (wpAny_newList ?_ (by rw [List.length_map, hl]; exact hsz))
  have hob : (h'.push (seqObj "list" (as.map Value.ref).toArray 0)).get? h'.objs.size = some (seqObj "list" (as.map Value.ref).toArray 0) := Heap.get?_push_size _ rfl
  have kb : ∀ b o, s2.heap.get? b = some o → (h'.push (seqObj "list" (as.map Value.ref).toArray 0)).get? b = some o := fun b o e => Heap.get?_push_of_some _ (hk b o e)
  have ne0 : ∀ b o, h'.get? b = some o → b ≠ h'.objs.size := fun b o e => Nat.ne_of_lt (Heap.lt_size e)
  show wpAny (model X.prog X.w) X.A.in1 _ _ _ { s2 with heap := h'.push (seqObj "list" (as.map Value.ref).toArray 0), toks := tk }
  have ka : ∀ b o, h'.get? b = some o → (h'.push (seqObj "list" (as.map Value.ref).toArray 0)).get? b = some o := fun b o e => Heap.get?_push_of_some _ e
  generalize hh2 : h'.push (seqObj "list" (as.map Value.ref).toArray 0) = h2 at hob kb ka ⊢
  obtain ⟨⟨oc, vs, tq, hoc, hdc, hvc⟩, _, _⟩ := I2.hok c' _ hcO
  have each : EachIs (fun v x => ∃ (j : Nat) (t kq : Addr) (val : Value), v = .ref t ∧ as[j]? = some t ∧ ks[j]? = some x ∧ H2 kq = some (.tup [.int x.1.1, .int x.1.2]) ∧ RelV (AtV.vV x.2) val ∧ h'.get? t = some { cls := .type "tuple", data := .seq #[Value.ref kq, val] }) (as.map Value.ref) ks :=
    each_idx (by rw [List.length_map, lak]) fun j v x h1 h2 => by
      rw [List.getElem?_map] at h1
      cases hj : as[j]? with
      | none => rw [hj] at h1; cases h1
      | some t =>
        rw [hj] at h1
        obtain ⟨e, kq, val, e1, e2, e3, e4⟩ := pr j t hj
        rw [h2] at e1
        cases e1
        exact ⟨j, t, kq, val, (Option.some.inj h1).symm, hj, h2, e2, e3, e4⟩
  refine wpAny_bind (wpAny_holding (PySem.W.list_sort_key_data (s := { s2 with heap := h2, toks := tk }) (f := .ref f) (b := false) (fun e : Ent β => PyData.int (keyE low e)) hob each (all_alike_int (keyE low) ks) (Sortable.others (enc := fun e : Ent β => PyData.int (keyE low e)) fun b => ⟨fun z => (nomatch z), fun xs z => (nomatch z)⟩) (by rw [sizeLine_eq]; omega)
    (fun x _ => by show X.A.units + 1 + 1 + 0 < cLine; omega) (ksk_l1 _ _) (ksk_t1 _ _) (fun v x hR hx h tk2 kp => ?_) fun out c h3 tk3 kp hD hlo hE => ?_))
  · obtain ⟨jj, t, kq, val, rfl, h1, h2', h3, h4, h5⟩ := hR
    have kS : ∀ b o, s2.heap.get? b = some o → h.get? b = some o := fun b o e => kp b o (ne0 b o (hk b o e)) (kb b o e)
    obtain ⟨_, its, rv, tp⟩ := (show ObjOk X.prog X.w H2 s2.heap kq (.tup [.int x.1.1, .int x.1.2]) from I2.hok kq _ h3)
    obtain ⟨u1, u2, rfl, r1, r2⟩ := vals2 rv
    obtain ⟨t1, rfl⟩ := r1
    obtain ⟨t2, rfl⟩ := r2
    obtain ⟨g1, g2, g3⟩ := hke x hx
    exact key_call (s := { s2 with heap := h, toks := tk2 }) (f := f) (c := cL) (b := t) (kq := kq) hr (I2.nolimit.keeps kS) (kS _ _ hf) (kS _ _ hoc) hdc hvc (hcell.keeps kS) ⟨_, kp t _ (ne0 _ _ h5) (ka _ _ h5), rfl, 0, rfl⟩ (tp.keeps kS) g1 g2 g3
  · refine wpAny_pure ⟨_, rfl, ?_⟩
    rw [PySem.W.dataLe_int] at hE
    obtain ⟨zs, e1, e2, e3⟩ := each_refs hE fun v b hR => by
      obtain ⟨_, t, _, _, e, _⟩ := hR
      exact ⟨t, e⟩
    have kS : ∀ b o, s2.heap.get? b = some o → h3.get? b = some o := fun b o e => kp b o (ne0 b o (hk b o e)) (kb b o e)
    have I3 : Inv X pins σ H2 { s2 with heap := h3, toks := tk3 } := I2.kept (t' := tk3) kS
    have hn0 : H2 h'.objs.size = none := I2.hok.fresh (Nat.le_of_lt hlt)
    have hlz : zs.length = ks.length := by rw [e1, List.length_map] at hlo; exact hlo
    have I4 : Inv X pins σ (upd H2 h'.objs.size (.lst (zs.map fun z => V.ref z.1))) { s2 with heap := h3, toks := tk3 } :=
      I3.take (h' := h3) (t' := tk3) (fun b ob _ e => e) (I2.fpOk (Nat.le_of_lt hlt) hn0) ⟨by rw [List.length_map, hlz, sizeLine_eq]; omega, out, c, by
        rw [e1]
        exact vals_maps (fun z : Addr × Ent β => V.ref z.1) (fun z => Value.ref z.1) zs fun _ _ => rfl, hD⟩
    obtain ⟨H4, I5, g, qt⟩ := DX.takeT (P := fun b vs => ∃ (j : Nat) (e : Ent β) (kq : Addr), as[j]? = some b ∧ ks[j]? = some e ∧ vs = [.ref kq, AtV.vV e.2] ∧ H2 kq = some (.tup [.int e.1.1, .int e.1.2])) I2 as _ I4 nd fun b hb => by
      obtain ⟨jj, hj⟩ := List.mem_iff_getElem?.mp hb
      obtain ⟨e, kq, val, he, hkq, hval, hg⟩ := pr jj b hj
      have hbl : s2.heap.objs.size ≤ b := Nat.le_of_lt (hG.above b hb)
      refine ⟨hbl, ?_, [.ref kq, AtV.vV e.2], ⟨jj, e, kq, hj, he, rfl, hkq⟩, fun H3 => ⟨(by rw [sizeLine_eq]; show 2 ≤ 16777216; omega), [Value.ref kq, val], .cons rfl (.cons hval .nil), ⟨_, kp _ _ (ne0 _ _ hg) (ka _ _ hg), rfl, 0, rfl⟩⟩⟩
      rw [upd_ne (ne0 _ _ hg)]
      exact I2.hok.fresh hbl
    have gr : ∀ b o, H2 b = some o → H4 b = some o := fun b o e => g b o (by rw [upd_ne (ne_of_none e hn0)]; exact e)
    refine ⟨.ref h'.objs.size, H4, I5, rfl, qq h'.objs.size (zs.map fun z => V.ref z.1) H4 (lB.trans (.of gr)) (g _ _ upd_same) fun S dom => ?_⟩
    have LT : Le T H H4 := lB.trans (.of gr)
    have tupN : ∀ {b : Addr} {ys : List V}, H4 b = some (.tup ys) → b ∉ S := fun {b ys} e m => by
      obtain ⟨o, h1, h2⟩ := dom b m
      have := LT.ext b o h1 fun ps z => by
        rw [z] at h2
        exact h2
      rw [e] at this
      cases this
      exact h2
    refine ⟨fun m => ?_, ?_⟩
    · obtain ⟨o, h1, h2⟩ := dom _ m
      have := lB.ext _ o h1 fun ps z => by
        rw [z] at h2
        exact h2
      rw [hn0] at this
      cases this
    rw [e2]
    refine repAll_zs fun z hz => ?_
    obtain ⟨jj, t, kq, val, e4, h1, h2', h3', h4, h5⟩ := e3 z hz
    cases e4
    obtain ⟨vs2, ⟨i2, x2', kq2, f1, f2, f3, f4⟩, hH⟩ := qt z.1 (List.mem_of_getElem? h1)
    have eij : jj = i2 := (List.getElem?_inj (List.getElem?_eq_some_iff.mp h1).1 nd).mp (h1.trans f1.symm)
    subst eij
    rw [h2'] at f2
    cases f2
    rw [f3] at hH
    have hk4 := gr _ _ f4
    exact rep_pair (z := z.2.1) (w := z.2.2) (by rw [hd_out (tupN hH)]; exact hH) (rep_pair (z := z.2.1.1) (w := z.2.1.2) (by rw [hd_out (tupN hk4)]; exact hk4) rep_int rep_int) (AtV.rep _ _)
end K4
end
section
set_option Elab.async false
set_option linter.all false
set_option maxRecDepth 100000
set_option maxHeartbeats 4000000
namespace K4
open PySem PySem.Spec PyProof.Rows L2 PySem.W
section
variable {T : List (Addr × Str)} {σ : L2.St} {S : List Addr} {G G' H H' H0 H1 : Hp} {p : Addr} {u o : HO}
theorem Le.mutG (e : Le T H H') (h : ∀ o, H p = some o → ∃ ps, o = .tbl ps) (hu : H' p = some u) (su : Soft u) : Le T H (upd H' p o) := by
  refine ⟨fun b w hb n => ?_, fun t => ?_⟩
  · by_cases z : b = p
    · obtain ⟨ps, rfl⟩ := h w (z ▸ hb)
      exact absurd rfl (n ps)
    · rw [upd_ne z]
      exact e.ext b w hb n
  · intro P hP
    obtain ⟨ps, h1, h2, h3⟩ := e.tab t P hP
    have np : P.1 ≠ p := fun z => by
      rw [z, hu] at h1
      cases h1
      exact su
    refine ⟨ps, by rw [upd_ne np]; exact h1, h2, fun pos cv hc => ?_⟩
    obtain ⟨c, e1, e2⟩ := h3 pos cv hc
    have nc : c ≠ p := fun z => by
      rw [z, hu] at e2
      cases e2
      exact su
    exact ⟨c, e1, by rw [upd_ne nc]; exact e2⟩
/-- one object of ours that changes -/
structure MS (T : List (Addr × Str)) (S : List Addr) (G H0 : Hp) (p : Addr) (o : HO) (H : Hp) : Prop where
  s : Sg T G (p :: S) H
  np : p ∉ S
  le : Le T H0 H
  fr : ∀ o, H0 p = some o → ∃ ps, o = .tbl ps
  its : H p = some o
  so : Soft o
theorem MS.rd (n : MS T S G H0 p o H) : Sg T (hd S H) S H := ⟨fun b hb => n.s.dom b (List.mem_cons_of_mem _ hb), .same⟩
theorem MS.dom (n : MS T S G H0 p o H) : Dom S H := n.rd.dom
theorem MS.see (n : MS T S G H0 p o H) : hd S H p = some o := by rw [hd_out n.np]; exact n.its
theorem MS.go (n : MS T S G H0 p o H) (e : Le T H H') : MS T S G H0 p o H' := ⟨n.s.go e, n.np, n.le.trans e, n.fr, e.soft n.its n.so, n.so⟩
theorem MS.set (n : MS T S G H0 p o H) (su : Soft u) : MS T S G H0 p u (upd H p u) := ⟨n.s.mut List.mem_cons_self su, n.np, n.le.mutG n.fr n.its n.so, n.fr, upd_same, su⟩
theorem MS.base (n : MS T S G H0 p o H) : MS T S (hd (p :: S) H) H0 p o H := ⟨n.s.up, n.np, n.le, n.fr, n.its, n.so⟩
theorem MS.down (n : MS T S G H0 p o H) (e : Le T G' G) : MS T S G' H0 p o H := ⟨⟨n.s.dom, e.trans n.s.le⟩, n.np, n.le, n.fr, n.its, n.so⟩
theorem MS.init (dom : Dom S H) (e0 : Le T H0 H) (np : p ∉ S) (e : Le T H H1) (eh : Le T (hd S H) (hd (p :: S) H1)) (hp : H1 p = some o) (so : Soft o) : MS T S (hd S H) H0 p o H1 :=
  ⟨Sg.ext (T := T) (G0 := hd S H) ⟨dom, .same⟩ e eh hp so, np, e0.trans e, fun o' ho => Classical.byContradiction fun h =>
    have nt : ∀ ps, o' ≠ .tbl ps := fun ps z => h ⟨ps, z⟩
    have h2 := eh.ext p o' (by rw [hd_out np]; exact e0.ext p o' ho nt) nt
    absurd ((hd_in (H := H1) (S := p :: S) List.mem_cons_self).symm.trans h2) (by simp), hp, so⟩
end
section
variable {T : List (Addr × Str)} {σ : L2.St} {S : List Addr} {G G' H H' H0 H1 : Hp} {p : Addr} {u o : HO} {K : PySem.W.Frag} {α β γ : Type} [DecidableEq α] [Datum α] [DecidableEq β] [Datum β] [DecidableEq γ] [Datum γ]
theorem Rep.unsee {v : V} {x : α} (h : Rep (hd S H) v x) (hp : H p = some o) (no : ¬ Stay o) : Rep (hd (p :: S) H) v x :=
  Dq.mono (fun b u hb su => by
    obtain ⟨h1, h2⟩ := hd_some hb
    have nb : b ≠ p := fun z => by
      rw [z, hp] at h1
      cases h1
      exact no su
    rw [hd_out (by
      intro hm
      rcases List.mem_cons.mp hm with z | z
      · exact nb z
      · exact h2 z)]
    exact h1) h
theorem RepAll.unsee {vs : List V} {xs : List α} (h : RepAll (hd S H) vs xs) (hp : H p = some o) (no : ¬ Stay o) : RepAll (hd (p :: S) H) vs xs :=
  DqAll.mono (fun b u hb su => by
    obtain ⟨h1, h2⟩ := hd_some hb
    have nb : b ≠ p := fun z => by
      rw [z, hp] at h1
      cases h1
      exact no su
    rw [hd_out (by
      intro hm
      rcases List.mem_cons.mp hm with z | z
      · exact nb z
      · exact h2 z)]
    exact h1) h
theorem Rep.shown {v : V} {x : α} (h : Rep (hd (p :: S) H) v x) : Rep (hd S H) v x := h.le (T := []) le_show
theorem RepAll.shown {vs : List V} {xs : List α} (h : RepAll (hd (p :: S) H) vs xs) : RepAll (hd S H) vs xs := h.le (T := []) le_show
theorem MS.rep {v : V} {x : α} (n : MS T S G H0 p o H) (r : Rep G v x) : Rep (hd S H) v x := (r.le n.s.le).shown
/-- the loop over a list whose making is told here and now -/
theorem q_forA {tl : TE} {g : TG} {tu tz : TS} {D : Ends} {xs : List α} (s : Sg T G S H) (h : ∀ Q : VK, (∀ v H2, Le T H H2 → Rep (hd S H2) v xs → Q v H2) → tl σ H Q) (Pv : Hp → Nat → L2.St → Hp → Prop) (h0 : ∀ H1, Le T H H1 → Pv H1 0 σ H1) (hl : ∀ H1 i σ' H', Pv H1 i σ' H' → ∃ S', Sg T (hd S H1) S' H')
    (hs : ∀ H1 i x v σ' H' H'', Le T H H1 → xs[i]? = some x → Pv H1 i σ' H' → Le T H' H'' → (∀ S', Sg T (hd S H1) S' H' → Rep (hd S' H'') v x) → g v σ' H'' fun σ2 H2 => tu { nx := Pv H1 (i + 1), rt := D.rt, ct := Pv H1 (i + 1), bk := tz D } σ2 H2) (hd' : ∀ H1 σ' H', Le T H H1 → Pv H1 xs.length σ' H' → tz D σ' H') : tSeq (tFor (iList K tl) g tu) tz D σ H := by
  refine h _ fun v H1 e r => ?_
  exact q_forL (tl := fun _ H' Q => Q v H') (G := hd S H1) (S := S) (H := H1) (xs := xs) ⟨(s.go e).dom, .same⟩ (fun S2 H2 s2 Q q => q v H2 .same (r.le s2.le)) Pv (fun H2 e2 => h0 H2 (e.trans e2)) hl (fun H2 i x v' σ' H' H'' e2 => hs H2 i x v' σ' H' H'' (e.trans e2)) fun H2 σ' H' e2 => hd' H2 σ' H' (e.trans e2)
end
end K4
end
section
set_option Elab.async false
set_option linter.all false
set_option maxRecDepth 100000
set_option maxHeartbeats 4000000
namespace K4
open PySem PySem.Spec PyProof.Rows L2 PySem.W
theorem dp0 {k : Nat} {A : Around} (r : Room k A) : A.depth < recursionLimit := by have := r.dp; omega
/-- the lambda's table is known -/
structure LamAt (base : Heap) (mg : Str → Option Value) (T : List (Addr × Str)) (c P : Addr) (q : Str) : Prop where
  tb : LamX.TabB base mg c P
  mem : (P, q) ∈ T
  un : ∀ p ∈ T, p.1 = P → p.2 = q
def AtL (K : PySem.W.Frag) (mg : Str → Option Value) (x : Str) (st : Stmt) (c : Addr) : Prop := ∃ (f : Addr) (fd : FuncData), mg x = some (.ref f) ∧ FnP K x st f fd ∧ fd.code = .ref c
theorem mk_calL {P : Program} {w : World} {K : PySem.W.Frag} {mg : Str → Option Value} {base : Heap} {k : Nat} {x : Str} {st : Stmt} {c : Addr} {N ps : List Str} {sp : Sp} {t : TS} (D : AtL K mg x st c) (S : FnScope N ps (defScope st))
    (hb : ∀ (kV doc pm : Value) (an : Option Addr) (cdv ct : Value) (us : List Value), us.length = ps.length → bindArgs (PySem.W.fnOf x x (defArgs st) (defBody st) (defScope st) .none kV doc pm an cdv ct) ⟨us, []⟩ = pure (ps.zip us))
    (len : ∀ vs H Q E, sp vs H Q E → vs.length = ps.length)
    (der : ∀ (f : Addr) (A : Around) (outer : List Env) (s : Shared) (H : Hp) (E : XK), Room k (A.deeper (envOfC x (defScope st) s.heap.objs.size f (.ref c))) → PSs (cxOf CX0 P w K mg base N x (defScope st) f (.ref c) A outer s H E).nox (defBody st) t)
    (pure : ∀ vs H Q E, sp vs H Q E → t { nx := fun _ H' => Q .non H', rt := Q } (start N vs) H) : Cal P w K mg base (k + 1) x ps sp := by
  obtain ⟨f, fd, hf, F, hc⟩ := D
  have F' := F
  obtain ⟨oc, od, dV, kV, doc, pm, an, cdv, ct, osl, rfl, lk, hcd, _, _⟩ := F.ex
  have e : cdv = .ref c := hc
  subst e
  exact ⟨f, _, hf, F'.kp, F'.bindsN hb, fn_of lk hcd S len fun A outer s H vs Q E hr h => ⟨t, PSs.nox (der f A outer s H E hr), pure vs H Q E h⟩⟩
section
variable {T : List (Addr × Str)} {σ : L2.St} {S : List Addr} {G G' H H' H1 : Hp} {K : PySem.W.Frag} {α β γ δ : Type} [DecidableEq α] [Datum α] [KeyL α] [DecidableEq β] [Datum β] [AtV β] [DecidableEq γ] [Datum γ] {te ta : TE} {n n2 : Nat} {p : Addr}
/-- a promise on a dict with values of either kind -/
def PuD (T : List (Addr × Str)) (P : List (α × β) → Prop) (f : List (α × β) → γ) : Sp := fun vs H Q _ => ∃ S p m, Dom S H ∧ vs = [.ref p] ∧ IsDT (hd S H) p m ∧ P m ∧ LamX.Tabs T H ∧ ∀ r H', Le T H H' → Rep (hd S H') r (f m) → Q r H'
theorem PuD.len {P : List (α × β) → Prop} {f : List (α × β) → γ} {ps : List Str} (h : ps.length = 1) : ∀ vs H Q E, PuD T P f vs H Q E → vs.length = ps.length := fun vs H Q E q => by
  obtain ⟨S, p, m, _, rfl, _⟩ := q
  exact h.symm
theorem ev_callDg {sp : Sp} {P : List (α × β) → Prop} {f : List (α × β) → γ} {m : List (α × β)} (hsp : ∀ vs H Q E, PuD T P f vs H Q E → sp vs H Q E) (gt : GT T G) (h : EvO T ta σ G (.dT (m.map kE))) (p : P m) : EvR T (tCall sp [] E0 (tCons ta tNil)) σ G (f m) := fun S H1 s Q q =>
  h S H1 s _ fun d H2 nd e2 le2 hd2 => hsp _ _ _ _ ⟨S, d, m, (s.go e2).dom, rfl, by show hd S H2 d = _; rw [hd_out nd]; exact hd2, p, (s.go e2).tabs gt, fun r H3 e3 r3 => q r H3 (e2.trans e3) r3⟩
theorem ev_callDgv {sp : Sp} {P : List (α × β) → Prop} {f : List (α × β) → γ} {m : List (α × β)} (hsp : ∀ vs H Q E, PuD T P f vs H Q E → sp vs H Q E) (gt : GT T G) (hn : σ[n]? = some (some (.ref p))) (hm : IsDT G p m) (pp : P m) : EvR T (tCall sp [] E0 (tCons (tVar n) tNil)) σ G (f m) := fun S H1 s Q q =>
  ⟨.ref p, hn, hsp _ _ _ _ ⟨S, p, m, s.dom, rfl, s.le.soft hm trivial, pp, s.tabs gt, fun r H3 e3 r3 => q r H3 e3 r3⟩⟩
theorem ev_sortKey {m : List ((Int × Int) × β)} {low : Int} (hn : σ[n]? = some (some (.ref p))) (hl : σ[n2]? = some (some (.int low))) (hm : IsDT G p m) (gt : GT T G) (ml : m.length ≤ 100000) (hc : ∀ e ∈ m, 0 < e.1.2 ∧ CDivW low e.1.2 ∧ CMul (-e.1.1) (low / e.1.2)) :
    EvR T (tSortKey β T K n n2) σ G (m.mergeSort fun x y => decide (keyE low x ≤ keyE low y)) := fun S H1 s Q q =>
  ⟨p, m, low, hn, hl, s.rd hm trivial, ml, s.tabs gt, hc, fun l us H2 e2 hl2 hr => by
    obtain ⟨nl, ra⟩ := hr S s.dom
    exact q _ H2 e2 (rep_lst (by rw [hd_out nl]; exact hl2) ra)⟩
end
def lowOf {β : Type} (m : List ((Int × Int) × β)) : Int := m.foldl (fun l e => l * e.1.2) 1
def mOrd {β : Type} (m : List ((Int × Int) × β)) : Tup ((Int × Int) × β) := Tup.mk (m.mergeSort fun x y => decide (keyE (lowOf m) x ≤ keyE (lowOf m) y))
def okOrd {β : Type} (m : List ((Int × Int) × β)) : Prop := m.length ≤ 100000 ∧ (∀ e ∈ m, 0 < e.1.2 ∧ CDivW (lowOf m) e.1.2 ∧ CMul (-e.1.1) (lowOf m / e.1.2)) ∧ ∀ i e, m[i]? = some e → CMul (lowOf (m.take i)) e.1.2
end K4
namespace K4
open PySem PySem.Spec PyProof.Rows L2 PySem.W
section
variable {T : List (Addr × Str)} {σ : L2.St} {S : List Addr} {G G' H H' H1 : Hp} {K : PySem.W.Frag} {α β γ δ ε : Type} [DecidableEq α] [Datum α] [DecidableEq β] [Datum β] [DecidableEq γ] [Datum γ] [DecidableEq δ] [Datum δ] [DecidableEq ε] [Datum ε] {ta tb tc td : TE} {x : α} {y : β} {z : γ} {w : δ}
def Pu3t (T : List (Addr × Str)) (P : α → β → γ → Prop) (f : α → β → γ → δ) : Sp := fun vs H Q _ => ∃ S v u w x y z, Dom S H ∧ vs = [v, u, w] ∧ Rep (hd S H) v x ∧ Rep (hd S H) u y ∧ Rep (hd S H) w z ∧ P x y z ∧ LamX.Tabs T H ∧ ∀ r H', Le T H H' → Rep (hd S H') r (f x y z) → Q r H'
theorem Pu3t.len {P : α → β → γ → Prop} {f : α → β → γ → δ} {ps : List Str} (h : ps.length = 3) : ∀ vs H Q E, Pu3t T P f vs H Q E → vs.length = ps.length := fun vs H Q E q => by
  obtain ⟨S, v, u, w, x, y, z, _, rfl, _⟩ := q
  exact h.symm
theorem ev_call3t {P : α → β → γ → Prop} {f : α → β → γ → δ} (gt : GT T G) (h1 : EvR T ta σ G x) (h2 : EvR T tb σ G y) (h3 : EvR T tc σ G z) (p : P x y z) : EvR T (tCall (Pu3t T P f) [] E0 (tCons ta (tCons tb (tCons tc tNil)))) σ G (f x y z) := fun S H1 s Q q =>
  h1 S H1 s _ fun v H2 e2 r2 => h2 S H2 (s.go e2) _ fun u H3 e3 r3 => h3 S H3 ((s.go e2).go e3) _ fun w H4 e4 r4 =>
    ⟨S, v, u, w, x, y, z, (((s.go e2).go e3).go e4).dom, rfl, (r2.le (e3.hd (s.go e2).dom)).le (e4.hd ((s.go e2).go e3).dom), r3.le (e4.hd ((s.go e2).go e3).dom), r4, p, (((s.go e2).go e3).go e4).tabs gt, fun r H5 e5 r5 => q r H5 (((e2.trans e3).trans e4).trans e5) r5⟩
end
end K4
end
section
set_option Elab.async false
set_option linter.all false
set_option maxRecDepth 100000
set_option maxHeartbeats 4000000
namespace K4
open PySem PySem.Spec PyProof.Rows L2 PySem.W
section
variable {T : List (Addr × Str)} {σ : L2.St} {S : List Addr} {G G' H H' H0 H1 : Hp} {p sc : Addr} {u o : HO} {K : PySem.W.Frag} {α β γ : Type} [DecidableEq α] [Datum α] [DecidableEq β] [Datum β] [DecidableEq γ] [Datum γ]
abbrev rowO (sc : Addr) (i s r : Int) : HO := .lst [.ref sc, .int i, .int s, .int r]
/-- the row of draws -/
theorem sq_le {a : Addr} {vs : List V} (h : SqL K H a vs) (e : Le T H H') : SqL K H' a vs := h.imp (fun r => r.imp (fun h => e.lst h) fun ⟨o, h⟩ => ⟨o, e.ext _ _ h fun _ z => by cases z⟩) id
theorem sq_real {a : Addr} {vs : List V} (h : SqL K (hd S H) a vs) : SqL K H a vs := h.imp hd_rd id
theorem sq_shown {a : Addr} {vs : List V} (h : SqL K (hd (p :: S) H) a vs) : SqL K (hd S H) a vs := sq_le (T := []) h le_show
def RowS (K : PySem.W.Frag) (T : List (Addr × Str)) (S : List Addr) (G H0 : Hp) (p sc : Addr) (xs : List Int) (H : Hp) : Prop := ∃ i s r : Int, MS T S G H0 p (rowO sc i s r) H ∧ 0 ≤ i ∧ SqL K G sc (xs.map V.int)
theorem RowS.go {xs : List Int} (n : RowS K T S G H0 p sc xs H) (e : Le T H H') : RowS K T S G H0 p sc xs H' := by
  obtain ⟨i, s, r, n, hi, hx⟩ := n
  exact ⟨i, s, r, n.go e, hi, hx⟩
theorem RowS.rd {xs : List Int} (n : RowS K T S G H0 p sc xs H) : Sg T (hd S H) S H := by
  obtain ⟨_, _, _, n, _⟩ := n
  exact n.rd
theorem RowS.ms {xs : List Int} (n : RowS K T S G H0 p sc xs H) : Sg T G (p :: S) H := by
  obtain ⟨_, _, _, n, _⟩ := n
  exact n.s
theorem RowS.down {xs : List Int} (n : RowS K T S G H0 p sc xs H) (e : Le T G' G) (hx : SqL K G' sc (xs.map V.int)) : RowS K T S G' H0 p sc xs H := by
  obtain ⟨i, s, r, n, hi, _⟩ := n
  exact ⟨i, s, r, n.down e, hi, hx⟩
theorem RowS.base {xs : List Int} (n : RowS K T S G H0 p sc xs H) : RowS K T S (hd (p :: S) H) H0 p sc xs H := by
  obtain ⟨i, s, r, n, hi, hx⟩ := n
  exact ⟨i, s, r, n.base, hi, sq_le hx n.s.le⟩
theorem RowS.le {xs : List Int} (n : RowS K T S G H0 p sc xs H) : Le T H0 H := by
  obtain ⟨i, s, r, n, hi, hx⟩ := n
  exact n.le
theorem fr_of {L : Addr} (e : Le T G H) (h : H L = none) : ∀ o, G L = some o → ∃ ps, o = .tbl ps := fun o ho => Classical.byContradiction fun h2 => by
  have := e.ext L o ho fun ps z => h2 ⟨ps, z⟩
  rw [h] at this
  cases this
/-- an object born after the base changes -/
theorem RowS.mut {xs : List Int} {L : Addr} (n : RowS K T S G H0 p sc xs H) (nL : L ∉ p :: S) (hG : ∀ o, G L = some o → ∃ ps, o = .tbl ps) (hH : ∀ o, H0 L = some o → ∃ ps, o = .tbl ps) (hL : H L = some u) (su : Soft u) : RowS K T S G H0 p sc xs (upd H L o) := by
  obtain ⟨i, s, r, n, hi, hx⟩ := n
  have nLp : p ≠ L := fun z => nL (by rw [← z]; exact List.mem_cons_self)
  refine ⟨i, s, r, ⟨⟨fun b hb => ?_, ?_⟩, n.np, n.le.mutG hH hL su, n.fr, by rw [upd_ne nLp]; exact n.its, n.so⟩, hi, hx⟩
  · obtain ⟨o', h1, h2⟩ := n.s.dom b hb
    have nb : b ≠ L := fun z => nL (by rw [← z]; exact hb)
    exact ⟨o', by rw [upd_ne nb]; exact h1, h2⟩
  · rw [hd_new nL]
    exact n.s.le.mutG hG (by rw [hd_out nL]; exact hL) su
theorem atI_in {xs : List α} {k : Int} (h0 : 0 ≤ k) (h1 : k < xs.length) : ∃ y, atI xs k = some y ∧ y ∈ xs := by
  unfold atI ixN
  rw [if_pos h0, if_pos h1]
  have h2 : k.toNat < xs.length := by omega
  exact ⟨xs[k.toNat], List.getElem?_eq_getElem h2, List.getElem_mem h2⟩
theorem ev_rowG {n : Nat} {vs : List V} {k : Int} {v : V} {x : α} (hn : σ[n]? = some (some (.ref p))) (hp : G p = some (.lst vs)) (hk : atI vs k = some v) (hv : Rep G v x) : EvR T (tOp (rIxL K) (tVar n) (tC (.int k))) σ G x := fun S H1 s Q q =>
  ⟨.ref p, hn, p, vs, k, v, rfl, rfl, .of (s.rd hp trivial), hk, q _ H1 .same (hv.le s.le)⟩
theorem evv_rowG {n : Nat} {vs : List V} {k : Int} {v : V} (hn : σ[n]? = some (some (.ref p))) (hp : G p = some (.lst vs)) (hk : atI vs k = some v) : EvV T (tOp (rIxL K) (tVar n) (tC (.int k))) σ G v := fun S H1 s Q q =>
  ⟨.ref p, hn, p, vs, k, v, rfl, rfl, .of (s.rd hp trivial), hk, q H1 .same⟩
theorem ev_lenQ {te : TE} {xs : List Int} (h : EvV T te σ G (.ref sc)) (hs : SqL K G sc (xs.map V.int)) : EvR T (tCB (rLenS K) (tCons te tNil)) σ G (xs.length : Int) := fun S H1 s Q q =>
  h S H1 s _ fun H2 e2 => ⟨sc, xs.map V.int, rfl, .inl (sq_real (sq_le hs (s.go e2).le)), by
    rw [List.length_map]
    exact q _ H2 e2 rep_int⟩
theorem ev_ixQ {ta tb : TE} {xs : List Int} {i x : Int} (ha : EvV T ta σ G (.ref sc)) (hs : SqL K G sc (xs.map V.int)) (hb : EvR T tb σ G i) (hx : atI xs i = some x) : EvR T (tOp (rIxL K) ta tb) σ G x := fun S H1 s Q q =>
  ha S H1 s _ fun H2 e2 => hb S H2 (s.go e2) _ fun u H3 e3 r3 => by
    obtain ⟨w, hw, rw'⟩ := atI_rep (H := hd S H3) (repAll_ints xs) hx
    exact ⟨sc, xs.map V.int, i, w, rfl, of_int r3, sq_real (sq_le hs ((s.go e2).go e3).le), hw, q w H3 (e2.trans e3) rw'⟩
theorem q_setRow {n j : Nat} {vs : List V} {k : Int} {x : Int} {te : TE} {D : Ends} {tz : TS} (s : Sg T G S H) (hn : σ[n]? = some (some (.ref p))) (hp : H p = some (.lst vs)) (hj : ixN vs.length k = some j) (h : EvR T te σ G x) (c : ∀ H1, Le T H H1 → tz D σ (upd H1 p (.lst (vs.set j (.int x))))) : tSeq (tAsg te (gSub (tVar n) (tC (.int k)) rSetL)) tz D σ H :=
  h S H s _ fun v H1 e1 r1 => by
    obtain rfl := of_int r1
    exact ⟨.ref p, hn, p, vs, k, j, rfl, rfl, e1.soft hp trivial, hj, c H1 e1⟩
theorem s_setRow {n j : Nat} {vs : List V} {k : Int} {x : Int} {te : TE} {D : Ends} (s : Sg T G S H) (hn : σ[n]? = some (some (.ref p))) (hp : H p = some (.lst vs)) (hj : ixN vs.length k = some j) (h : EvR T te σ G x) (c : ∀ H1, Le T H H1 → D.nx σ (upd H1 p (.lst (vs.set j (.int x))))) : tAsg te (gSub (tVar n) (tC (.int k)) rSetL) D σ H :=
  q_setRow (tz := fun D σ H => D.nx σ H) s hn hp hj h c
/-- a list of draws -/
theorem tLc_draws {xs : List Int} {n many : Int} {j : Nat} {te : TE} {Q : VK} (n0 : 0 ≤ n) (n1 : n ≤ 1000) (row : RowS K T S G H0 p sc xs H) (hw : ∀ x, wipe ((wipe σ [j]).set j x) [j] = wipe σ [j])
    (hte : ∀ (i : Int) H', RowS K T S G H0 p sc xs H' → ∀ Q : VK, (∀ v H'', RowS K T S G H0 p sc xs H'' → 0 ≤ v → v < many → Le T (hd (p :: S) H') (hd (p :: S) H'') → Q (.int v) H'') → te ((wipe σ [j]).set j (some (.int i))) H' Q)
    (q : ∀ L (vs : List Int) H', H L = none → RowS K T S G H0 p sc xs H' → H' L = some (.lst (vs.map V.int)) → L ∉ p :: S → (vs.length : Int) = n → (∀ v ∈ vs, 0 ≤ v ∧ v < many) → Le T (hd (p :: S) H) (hd (p :: S) H') → Q (.ref L) H') : tLc (iRng1 (tCons (fun _ H' Q => Q (.int n) H') tNil)) (gName j) tYes te [j] σ H Q := by
  refine ⟨n, rfl, by omega, by omega, fun D hD => ?_⟩
  have nD : D ∉ p :: S := row.ms.fresh hD
  have hD' : hd (p :: S) H D = none := by rw [hd_out nD]; exact hD
  have fG := fr_of row.ms.le hD'
  have f0 := fr_of row.le hD
  refine ⟨fun i m H' => m = n.toNat - i ∧ i ≤ n.toNat ∧ RowS K T S G H0 p sc xs H' ∧ Le T (hd (p :: S) H) (hd (p :: S) H') ∧ ∃ vs : List Int, H' D = some (.lst (vs.map V.int)) ∧ vs.length = i ∧ ∀ v ∈ vs, 0 ≤ v ∧ v < many, ⟨n.toNat, by omega, Nat.zero_le _, row.go (.new hD), (Le.new (T := T) hD).hd row.ms.dom, [], upd_same, rfl, fun v h => nomatch h⟩, ?_⟩
  rintro i m H' ⟨rfl, hi, r', l', vs, hvs, hl, hv⟩
  by_cases hlt : i < n.toNat
  · refine .inr ⟨hlt, fun H'' => RowS K T S G H0 p sc xs H'' ∧ Le T (hd (p :: S) H) (hd (p :: S) H'') ∧ ∃ vs : List Int, H'' D = some (.lst (vs.map V.int)) ∧ vs.length = i + 1 ∧ ∀ v ∈ vs, 0 ≤ v ∧ v < many, fun H'' hn => ⟨_, by omega, rfl, hlt, hn⟩, fun x H'' y => ?_⟩
    obtain ⟨rfl, rfl⟩ := y
    refine ⟨hw _, ?_⟩
    show te _ _ _
    refine hte _ _ r' _ fun v H4 r4 v0 v1 l4 => ?_
    have d4 : H4 D = some (.lst (vs.map V.int)) := (hd_some (l4.soft (o := .lst (vs.map V.int)) (by rw [hd_out nD]; exact hvs) trivial)).1
    refine ⟨vs.map V.int, d4, by rw [List.length_map]; exact sz_lt (by omega), r4.mut nD fG f0 d4 trivial, ?_, vs ++ [v], ?_, by simp [hl], fun z hz => ?_⟩
    · rw [hd_new nD]
      exact (l'.trans l4).mut (u := .lst (vs.map V.int)) hD' (by rw [hd_out nD]; exact d4) trivial
    · rw [upd_same, List.map_append] <;> rfl
    · rcases List.mem_append.mp hz with h | h
      · exact hv z h
      · rw [List.mem_singleton.mp h]
        exact ⟨v0, v1⟩
  · refine .inl ⟨by show n.toNat ≤ i; omega, q D vs H' hD r' hvs nD (by omega) hv l'⟩
theorem hd_cons {F : Addr} {X : List Addr} : hd (F :: X) H = hd [F] (hd X H) := by
  funext b
  unfold hd
  by_cases h : b = F
  · simp [h]
  · simp [h]
theorem fr_new {F : Addr} {X : List Addr} (eh : Le T G (hd (F :: X) H)) : ∀ o, G F = some o → ∃ ps, o = .tbl ps := fr_of eh (hd_in List.mem_cons_self)
theorem fr_le (e : Le T G G') (h : ∀ o, G' p = some o → ∃ ps, o = .tbl ps) : ∀ o, G p = some o → ∃ ps, o = .tbl ps := fun o ho => Classical.byContradiction fun h2 => by
  obtain ⟨ps, z⟩ := h o (e.ext p o ho fun ps z => h2 ⟨ps, z⟩)
  exact h2 ⟨ps, z⟩
/-- a loop over a range whose end is known -/
theorem s_forN {n : Int} {j : Nat} {tu : TS} {D : Ends} (n0 : 0 ≤ n) (n1 : n ≤ 100000) (Pv : Nat → L2.St → Hp → Prop) (h0 : Pv 0 σ H)
    (hs : ∀ (i : Nat) σ' H', (i : Int) < n → Pv i σ' H' → tu { D with nx := Pv (i + 1), ct := Pv (i + 1), bk := D.nx } (σ'.set j (some (.int (0 + (i : Int))))) H') (he : ∀ σ' H', Pv n.toNat σ' H' → D.nx σ' H') : tFor (iRng1 (tCons (fun _ H' Q => Q (.int n) H') tNil)) (gName j) tu D σ H := by
  refine ⟨n, rfl, by omega, by omega, fun i m σ' H' => m = n.toNat - i ∧ i ≤ n.toNat ∧ Pv i σ' H', ⟨_, rfl, Nat.zero_le _, h0⟩, ?_⟩
  rintro i m σ' H' ⟨rfl, hi, q⟩
  by_cases hlt : i < n.toNat
  · refine .inr ⟨hlt, Pv (i + 1), fun σ2 H2 q => ⟨_, by omega, rfl, hlt, q⟩, fun v H'' y => ?_⟩
    obtain ⟨rfl, rfl⟩ := y
    exact hs i σ' _ (by omega) q
  · have e2 : i = n.toNat := by omega
    subst e2
    exact .inl ⟨Nat.le_refl _, he _ _ q⟩
theorem lc_num {tn te : TE} {g : TG} {tt : TT} {vs : List Nat} {Q : VK} {P : Int → Hp → Prop} (h : ∀ Q : VK, (∀ x H2, P x H2 → Q (.int x) H2) → tn σ H Q) (k : ∀ x H2, P x H2 → tLc (iRng1 (tCons (fun _ H' Q => Q (.int x) H') tNil)) g tt te vs σ H2 Q) : tLc (iRng1 (tCons tn tNil)) g tt te vs σ H Q := h _ fun x H2 p => k x H2 p
theorem q_lcNum {tn te : TE} {g : TG} {tt : TT} {vs : List Nat} {i : Nat} {tz : TS} {D : Ends} {P : Int → Hp → Prop} (h : ∀ Q : VK, (∀ x H2, P x H2 → Q (.int x) H2) → tn σ H Q) (k : ∀ x H2, P x H2 → tLc (iRng1 (tCons (fun _ H' Q => Q (.int x) H') tNil)) g tt te vs σ H2 (fun v H3 => tz D (σ.set i (some v)) H3)) : tSeq (tAsg (tLc (iRng1 (tCons tn tNil)) g tt te vs) (gName i)) tz D σ H := lc_num (Q := fun v H3 => tz D (σ.set i (some v)) H3) h k
end
end K4
end
section
set_option Elab.async false
set_option linter.all false
set_option maxRecDepth 100000
set_option maxHeartbeats 4000000
/-! the mirror, 2: what the defs compute with lists -/
namespace K4
open PySem PySem.W
/-! ### the keys of a dict -/
section
variable {κ β : Type} [DecidableEq κ]
theorem putD_keys (m : List (κ × β)) (k : κ) (v : β) (x : κ) : x ∈ (putD m k v).map (·.1) ↔ x = k ∨ x ∈ m.map (·.1) := by
  unfold putD
  by_cases h : (m.any fun e => decide (e.1 = k)) = true
  · rw [if_pos h, List.map_map]
    have e : ((fun e : κ × β => e.1) ∘ fun e : κ × β => if e.1 = k then (e.1, v) else e) = fun e => e.1 := by
      funext e
      show (if e.1 = k then (e.1, v) else e).1 = e.1
      split <;> rfl
    rw [e]
    constructor
    · exact .inr
    · rintro (rfl | h2)
      · obtain ⟨e, he, h3⟩ := List.any_eq_true.mp h
        have := of_decide_eq_true h3
        exact List.mem_map.mpr ⟨e, he, this⟩
      · exact h2
  · rw [if_neg h, List.map_append, List.mem_append]
    constructor
    · rintro (h | h)
      · exact .inr h
      · exact .inl (by simpa using h)
    · rintro (h | h)
      · exact .inr (by simpa using h)
      · exact .inl h
theorem putD_nodup (m : List (κ × β)) (k : κ) (v : β) (h : (m.map (·.1)).Nodup) : ((putD m k v).map (·.1)).Nodup := by
  unfold putD
  by_cases h2 : (m.any fun e => decide (e.1 = k)) = true
  · rw [if_pos h2, List.map_map]
    have e : ((fun e : κ × β => e.1) ∘ fun e : κ × β => if e.1 = k then (e.1, v) else e) = fun e => e.1 := by
      funext e
      show (if e.1 = k then (e.1, v) else e).1 = e.1
      split <;> rfl
    rw [e]
    exact h
  · rw [if_neg h2, List.map_append, List.nodup_append]
    refine ⟨h, by simp, fun a ha b hb => ?_⟩
    have hb' : b = k := by simpa using hb
    rw [hb']
    rintro rfl
    obtain ⟨e, he, h3⟩ := List.mem_map.mp ha
    exact h2 (List.any_eq_true.mpr ⟨e, he, decide_eq_true h3⟩)
end
def keysD (xs : List Int) : List (Int × Bool) := xs.foldl (fun m x => putD m x true) []
theorem keysD_go : ∀ (xs : List Int) (m : List (Int × Bool)), (m.map (·.1)).Nodup → ((xs.foldl (fun m x => putD m x true) m).map (·.1)).Nodup ∧ (∀ z, z ∈ (xs.foldl (fun m x => putD m x true) m).map (·.1) ↔ z ∈ xs ∨ z ∈ m.map (·.1)) ∧ (xs.foldl (fun m x => putD m x true) m).length ≤ m.length + xs.length
  | [], m, h => ⟨h, fun z => by simp, Nat.le_refl _⟩
  | x :: xs, m, h => by
    obtain ⟨h1, h2, h3⟩ := keysD_go xs (putD m x true) (putD_nodup m x true h)
    refine ⟨h1, fun z => ?_, ?_⟩
    · rw [List.foldl_cons, h2 z, putD_keys, List.mem_cons]
      constructor
      · rintro (h | h | h)
        · exact .inl (.inr h)
        · exact .inl (.inl h)
        · exact .inr h
      · rintro ((h | h) | h)
        · exact .inr (.inl h)
        · exact .inl h
        · exact .inr (.inr h)
    · have := putD_len m x true
      rw [List.foldl_cons, List.length_cons]
      omega
theorem isort_keysD (xs : List Int) : isort ((keysD xs).map (·.1)) = usort xs := by
  obtain ⟨h1, h2, _⟩ := keysD_go xs [] List.nodup_nil
  refine usort_uniq ?_ fun z => ?_
  · have n : (isort ((keysD xs).map (·.1))).Nodup := (isort_perm _).nodup_iff.mpr h1
    have s := isort_sorted ((keysD xs).map (·.1))
    exact (List.Pairwise.and s n).imp fun {a b} z => by omega
  · rw [(isort_perm _).mem_iff]
    exact (h2 z).trans ⟨fun h => h.elim id fun h => (nomatch h), .inl⟩
theorem keysD_len (xs : List Int) : (keysD xs).length ≤ xs.length := by
  have h := (keysD_go xs [] List.nodup_nil).2.2
  rw [List.length_nil, Nat.zero_add] at h
  exact h
/-! ### supports, subsets -/
def highs (r : Int) (xs : List Int) : Int := ((xs.filter fun x => decide (x < r)).length : Int)
def mSupport (r c : Int) (xs : List Int) : Tup Int :=
  if highs r (usort xs) = r ∨ ((usort xs).length : Int) - highs r (usort xs) = c then Tup.mk (rng 0 (r + c).toNat) else Tup.mk (usort xs)
def mSubsetsL (xs : List Int) : List (List Int) := xs.foldl (fun found one => found ++ found.map (· ++ [one])) [[]]
def mSubsets (xs : List Int) : List (List Int) := cut (mSubsetsL xs) none (some (-1))
theorem insU_len (x : Int) : ∀ ys, (insU x ys).length ≤ ys.length + 1
  | [] => Nat.le_refl _
  | y :: ys => by
    unfold insU
    split
    · exact Nat.le_refl _
    · split
      · omega
      · have := insU_len x ys
        simp only [List.length_cons]
        omega
theorem usort_len : ∀ xs, (usort xs).length ≤ xs.length
  | [] => Nat.le_refl _
  | x :: xs => by
    have h1 := insU_len x (usort xs)
    have h2 := usort_len xs
    show (insU x (usort xs)).length ≤ _
    rw [List.length_cons]
    omega
theorem subsets_len : ∀ (xs : List Int) (f : List (List Int)), (xs.foldl (fun found one => found ++ found.map (· ++ [one])) f).length = f.length * 2 ^ xs.length
  | [], f => by simp
  | x :: xs, f => by
    rw [List.foldl_cons, subsets_len xs]
    simp only [List.length_append, List.length_map, List.length_cons, Nat.pow_succ]
    rw [← Nat.mul_two, Nat.mul_assoc, Nat.mul_comm 2]
theorem subsets_mem : ∀ (xs : List Int) (f : List (List Int)) (n : Nat), (∀ l ∈ f, l.length ≤ n) → ∀ l ∈ xs.foldl (fun found one => found ++ found.map (· ++ [one])) f, l.length ≤ n + xs.length
  | [], f, n, h, l, hl => h l hl
  | x :: xs, f, n, h, l, hl => by
    have := subsets_mem xs (f ++ f.map (· ++ [x])) (n + 1) (fun l hl => by
      rcases List.mem_append.mp hl with hl | hl
      · exact Nat.le_succ_of_le (h l hl)
      · obtain ⟨l', h', rfl⟩ := List.mem_map.mp hl
        have := h l' h'
        simp
        omega) l hl
    rw [List.length_cons]
    omega
end K4
end
section
set_option Elab.async false
set_option linter.all false
set_option maxRecDepth 100000
set_option maxHeartbeats 4000000
namespace K4
open PySem PySem.Spec PyProof.Rows L2 PySem.W
/-! ### normal forms: the mirror, the things that change -/
abbrev NSt := List (List Int) × List (Int × Bool) × Int × Int
def nstep (r c : Int) (st : NSt) (x : Int) : NSt :=
  if (!(getD' st.2.1 x).isSome && (decide (st.2.2.1 < r) && decide (st.2.2.2 < c))) = true then
    (if (decide (st.1 ≠ []) && decide (decide ((st.1.getLastD []).headD 0 < r) = decide (x < r))) = true then st.1.dropLast ++ [st.1.getLastD [] ++ [x]] else st.1 ++ [[x]], putD st.2.1 x true, if x < r then st.2.2.1 + 1 else st.2.2.1, if x < r then st.2.2.2 else st.2.2.2 + 1)
  else st
def nrun (r c : Int) (xs : List Int) : NSt := xs.foldl (nstep r c) ([], [], 0, 0)
def mNormal (r c : Int) (strokes : List Int) : Tup Int := Tup.mk ((nrun r c strokes.reverse).1.reverse.foldl (fun f s => f ++ isort s) [])
/-- parts are not empty; few items -/
theorem nrun_ok (r c : Int) : ∀ (xs : List Int) (st : NSt), (∀ p ∈ st.1, p ≠ []) → (∀ p ∈ (xs.foldl (nstep r c) st).1, p ≠ []) ∧ (xs.foldl (nstep r c) st).1.length ≤ st.1.length + xs.length ∧ (xs.foldl (nstep r c) st).1.flatten.length ≤ st.1.flatten.length + xs.length ∧ (xs.foldl (nstep r c) st).2.1.length ≤ st.2.1.length + xs.length
  | [], st, h => ⟨h, Nat.le_refl _, Nat.le_refl _, Nat.le_refl _⟩
  | x :: xs, st, h => by
    have key : (∀ p ∈ (nstep r c st x).1, p ≠ []) ∧ (nstep r c st x).1.length ≤ st.1.length + 1 ∧ (nstep r c st x).1.flatten.length ≤ st.1.flatten.length + 1 ∧ (nstep r c st x).2.1.length ≤ st.2.1.length + 1 := by
      unfold nstep
      split
      · refine ⟨?_, ?_, ?_, putD_len _ _ _⟩
        · dsimp only
          split
          · intro p hp
            rcases List.mem_append.mp hp with hp | hp
            · exact h p (List.dropLast_subset _ hp)
            · rw [List.mem_singleton.mp hp]
              simp
          · intro p hp
            rcases List.mem_append.mp hp with hp | hp
            · exact h p hp
            · rw [List.mem_singleton.mp hp]
              simp
        · dsimp only
          split <;> simp <;> omega
        · dsimp only
          split
          · rename_i hq
            have hne : st.1 ≠ [] := by
              simp only [Bool.and_eq_true, decide_eq_true_eq] at hq
              exact hq.1
            have e : st.1 = st.1.dropLast ++ [st.1.getLastD []] := by
              rw [List.getLastD_eq_getLast?, List.getLast?_eq_getLast hne]
              exact (List.dropLast_concat_getLast hne).symm
            have : st.1.flatten.length = st.1.dropLast.flatten.length + (st.1.getLastD []).length := by
              conv => lhs; rw [e]
              simp
            rw [this]
            simp
            omega
          · simp
      · exact ⟨h, by omega, by omega, by omega⟩
    obtain ⟨k1, k2, k3, k4⟩ := key
    obtain ⟨a1, a2, a3, a4⟩ := nrun_ok r c xs (nstep r c st x) k1
    rw [List.foldl_cons, List.length_cons]
    exact ⟨a1, by omega, by omega, by omega⟩
section
variable {T : List (Addr × Str)} {S S1 S2 : List Addr} {G G' H H' H0 H1 : Hp} {P D C : Addr} {Ls : List Addr} {parts : List (List Int)} {told : List (Int × Bool)} {a b : Int}
theorem Sg.sub (s : Sg T G S2 H) (h : ∀ b ∈ S1, b ∈ S2) : Sg T G S1 H := ⟨fun b hb => s.dom b (h b hb), s.le.trans (.of fun b u e => by
  obtain ⟨e1, e2⟩ := hd_some e
  rw [hd_out fun m => e2 (h b m)]
  exact e1)⟩
/-- lists of ints, as data -/
theorem rows_rep (n : ∀ b ∈ Ls, b ∉ S) (h : Paired (fun L xs => H L = some (.lst (List.map V.int xs))) Ls parts) : RepAll (hd S H) (Ls.map V.ref) parts := by
  induction h with
  | nil => exact repAll_nil
  | cons h t ih => exact repAll_cons (rep_lst (by rw [hd_out (n _ List.mem_cons_self)]; exact h) (repAll_ints _)) (ih fun b hb => n b (List.mem_cons_of_mem _ hb))
/-- nothing stands there but a table -/
def Frh (H : Hp) (p : Addr) : Prop := ∀ o, H p = some o → ∃ ps, o = .tbl ps
theorem Frh.of {p : Addr} (e : Le T H0 H) (h : H p = none) : Frh H0 p := fun o ho => by
  by_cases ht : ∃ ps, o = .tbl ps
  · exact ht
  · have := e.ext p o ho fun ps z => ht ⟨ps, z⟩
    rw [h] at this
    cases this
theorem Le.mutF {p : Addr} {u o : HO} (e : Le T H H') (h : Frh H p) (hu : H' p = some u) (su : Soft u) : Le T H (upd H' p o) := by
  refine ⟨fun b w hb n => ?_, fun t P hP => ?_⟩
  · have nb : b ≠ p := fun z => by
      obtain ⟨ps, e⟩ := h w (by rw [← z]; exact hb)
      exact n ps e
    rw [upd_ne nb]
    exact e.ext b w hb n
  · obtain ⟨ps, h1, h2, h3⟩ := e.tab t P hP
    have np : P.1 ≠ p := fun z => by
      rw [z, hu] at h1
      cases h1
      exact su
    refine ⟨ps, by rw [upd_ne np]; exact h1, h2, fun pos cv hc => ?_⟩
    obtain ⟨c, e1, e2⟩ := h3 pos cv hc
    have nc : c ≠ p := fun z => by
      rw [z, hu] at e2
      cases e2
      exact su
    exact ⟨c, e1, by rw [upd_ne nc]; exact e2⟩
structure NS (T : List (Addr × Str)) (S : List Addr) (G H0 : Hp) (P D C : Addr) (Ls : List Addr) (st : NSt) (H : Hp) : Prop where
  s : Sg T G (P :: D :: C :: (Ls ++ S)) H
  le : Le T H0 H
  nd : (P :: D :: C :: Ls).Nodup
  ns : ∀ b ∈ P :: D :: C :: Ls, b ∉ S
  fr : ∀ b ∈ P :: D :: C :: Ls, Frh H0 b
  hP : H P = some (.lst (Ls.map V.ref))
  hD : IsDI H D st.2.1
  hC : H C = some (.lst [.int st.2.2.1, .int st.2.2.2])
  hL : Paired (fun L xs => H L = some (.lst (List.map V.int xs))) Ls st.1
variable {st : NSt}
theorem NS.dom (n : NS T S G H0 P D C Ls st H) : Dom S H := fun b hb => n.s.dom b (by simp [hb])
theorem NS.rd (n : NS T S G H0 P D C Ls st H) : Sg T (hd S H) S H := ⟨n.dom, .same⟩
theorem paired_mono {Ls : List Addr} {parts : List (List Int)} (h : Paired (fun L xs => H L = some (.lst (List.map V.int xs))) Ls parts) (k : ∀ L xs, L ∈ Ls → H L = some (.lst xs) → H' L = some (.lst xs)) : Paired (fun L xs => H' L = some (.lst (List.map V.int xs))) Ls parts := by
  induction h with
  | nil => exact .nil
  | cons h t ih => exact .cons (k _ _ List.mem_cons_self h) (ih fun L xs hL => k L xs (List.mem_cons_of_mem _ hL))
theorem NS.go (n : NS T S G H0 P D C Ls st H) (e : Le T H H1) : NS T S G H0 P D C Ls st H1 :=
  ⟨n.s.go e, n.le.trans e, n.nd, n.ns, n.fr, e.lst n.hP, e.dK n.hD, e.lst n.hC, paired_mono n.hL fun L xs _ h => e.lst h⟩
theorem NS.reps (n : NS T S G H0 P D C Ls st H) : Rep (hd S H) (.ref P) st.1 := rep_lst (by rw [hd_out (n.ns P (by simp))]; exact n.hP) (rows_rep (fun b hb => n.ns b (by simp [hb])) n.hL)
theorem NS.repC (n : NS T S G H0 P D C Ls st H) : Rep (hd S H) (.ref C) [st.2.2.1, st.2.2.2] := rep_lst (by rw [hd_out (n.ns C (by simp))]; exact n.hC) (repAll_ints [_, _])
theorem NS.repD (n : NS T S G H0 P D C Ls st H) : IsDI (hd S H) D st.2.1 := by
  show hd S H D = _
  rw [hd_out (n.ns D (by simp))]
  exact n.hD
theorem NS.le0 (n : NS T S G H0 P D C Ls st H) : Le T G (hd S H) := (n.s.sub fun b hb => by simp [hb]).le
theorem NS.init (dom : Dom S H) (hP : H P = none) (hD : upd H P (.lst []) D = none) (hC : upd (upd H P (.lst [])) D (.dK []) C = none) : NS T S (hd S H) H P D C [] ([], [], 0, 0) (upd (upd (upd H P (.lst [])) D (.dK [])) C (.lst [.int 0, .int 0])) := by
  have s0 : Sg T (hd S H) S H := ⟨dom, .same⟩
  have s1 := s0.hide (o := .lst []) hP trivial
  have s2 := s1.hide (o := .dK []) hD trivial
  have s3 := s2.hide (o := .lst [.int 0, .int 0]) hC trivial
  have nDP : D ≠ P := fun z => by rw [z, upd_same] at hD; cases hD
  have nCD : C ≠ D := fun z => by rw [z, upd_same] at hC; cases hC
  have nCP : C ≠ P := fun z => by rw [z, upd_ne (Ne.symm nDP), upd_same] at hC; cases hC
  have hD0 : H D = none := by rw [upd_ne nDP] at hD; exact hD
  have hC0 : H C = none := by rw [upd_ne nCD, upd_ne nCP] at hC; exact hC
  have fr : ∀ {b : Addr}, H b = none → Frh H b := fun e o h => by rw [e] at h; cases h
  refine ⟨s3.sub fun b hb => ?_, ((Le.new hP).trans (.new hD)).trans (.new hC), ?_, fun b hb => ?_, fun b hb => ?_, ?_, ?_, upd_same, .nil⟩
  · simp only [List.mem_cons, List.nil_append] at hb ⊢
    rcases hb with h | h | h | h
    · exact .inr (.inr (.inl h))
    · exact .inr (.inl h)
    · exact .inl h
    · exact .inr (.inr (.inr h))
  · simp only [List.nodup_cons, List.mem_cons, List.not_mem_nil, or_false, not_or, not_false_eq_true, and_true, List.nodup_nil]
    exact ⟨⟨Ne.symm nDP, Ne.symm nCP⟩, Ne.symm nCD⟩
  · simp only [List.mem_cons, List.not_mem_nil, or_false] at hb
    rcases hb with rfl | rfl | rfl
    · exact s0.fresh hP
    · exact s0.fresh hD0
    · exact s0.fresh hC0
  · simp only [List.mem_cons, List.not_mem_nil, or_false] at hb
    rcases hb with rfl | rfl | rfl
    · exact fr hP
    · exact fr hD0
    · exact fr hC0
  · rw [upd_ne (Ne.symm nCP), upd_ne (Ne.symm nDP), upd_same] <;> rfl
  · show upd _ _ _ _ = _
    rw [upd_ne (Ne.symm nCD), upd_same] <;> rfl
/-- told of the heap itself -/
theorem NS.base (n : NS T S G H0 P D C Ls st H) : NS T S (hd (P :: D :: C :: (Ls ++ S)) H) H0 P D C Ls st H := ⟨⟨n.s.dom, .same⟩, n.le, n.nd, n.ns, n.fr, n.hP, n.hD, n.hC, n.hL⟩
/-- the list at C changes -/
theorem NS.setC {x y : Int} (n : NS T S G H0 P D C Ls (parts, told, a, b) H) : NS T S G H0 P D C Ls (parts, told, x, y) (upd H C (.lst [.int x, .int y])) := by
  have nd := n.nd
  simp only [List.nodup_cons, List.mem_cons, not_or] at nd
  obtain ⟨⟨h1, h2, h3⟩, ⟨h4, h5⟩, h6, h7⟩ := nd
  exact ⟨n.s.mut (by simp) trivial, n.le.mutF (n.fr C (by simp)) n.hC trivial, n.nd, n.ns, n.fr, by rw [upd_ne h2]; exact n.hP, by show upd _ _ _ _ = _; rw [upd_ne h4]; exact n.hD, upd_same, paired_mono n.hL fun L xs hL h => by
    rw [upd_ne fun z => h6 (by rw [← z]; exact hL)]
    exact h⟩
/-- the dict at D -/
theorem NS.setD {m : List (Int × Bool)} (n : NS T S G H0 P D C Ls (parts, told, a, b) H) : NS T S G H0 P D C Ls (parts, m, a, b) (upd H D (.dK (m.map kI))) := by
  have nd := n.nd
  simp only [List.nodup_cons, List.mem_cons, not_or] at nd
  obtain ⟨⟨h1, h2, h3⟩, ⟨h4, h5⟩, h6, h7⟩ := nd
  exact ⟨n.s.mut (by simp) trivial, n.le.mutF (n.fr D (by simp)) n.hD trivial, n.nd, n.ns, n.fr, by rw [upd_ne h1]; exact n.hP, upd_same, by rw [upd_ne (Ne.symm h4)]; exact n.hC, paired_mono n.hL fun L xs hL h => by
    rw [upd_ne fun z => h5 (by rw [← z]; exact hL)]
    exact h⟩
/-- a new part -/
theorem NS.newL {L : Addr} {x : Int} (n : NS T S G H0 P D C Ls (parts, told, a, b) H) (hL : H L = none) : NS T S G H0 P D C (Ls ++ [L]) (parts ++ [[x]], told, a, b) (upd (upd H L (.lst [.int x])) P (.lst (Ls.map V.ref ++ [.ref L]))) := by
  have nd := n.nd
  simp only [List.nodup_cons, List.mem_cons, not_or] at nd
  obtain ⟨⟨h1, h2, h3⟩, ⟨h4, h5⟩, h6, h7⟩ := nd
  have eL : ∀ c ∈ P :: D :: C :: Ls, c ≠ L := fun c hc z => by
    obtain ⟨o, e, _⟩ := n.s.dom c (by
      simp only [List.mem_cons, List.mem_append] at hc ⊢
      rcases hc with h | h | h | h
      · exact .inl h
      · exact .inr (.inl h)
      · exact .inr (.inr (.inl h))
      · exact .inr (.inr (.inr (.inl h))))
    rw [z, hL] at e
    cases e
  have lS : L ∉ S := fun m => by
    obtain ⟨o, e, _⟩ := n.dom L m
    rw [hL] at e
    cases e
  have l0 : Frh H0 L := Frh.of n.le hL
  have pL : P ≠ L := eL P (by simp)
  have e1 : Le T H (upd H L (.lst [.int x])) := .new hL
  have n1 := n.go e1
  have sL : Sg T G (L :: P :: D :: C :: (Ls ++ S)) (upd H L (.lst [.int x])) := n.s.hide hL trivial
  have s2 : Sg T G (P :: D :: C :: ((Ls ++ [L]) ++ S)) (upd H L (.lst [.int x])) := by
    refine ⟨fun b hb => sL.dom b ?_, sL.le.trans (.of fun b u e => ?_)⟩
    · simp only [List.mem_cons, List.mem_append] at hb ⊢
      rcases hb with h | h | h | ((h | h) | h) <;> simp_all
    · obtain ⟨e1, e2⟩ := hd_some e
      rw [hd_out fun m => e2 (by
        simp only [List.mem_cons, List.mem_append] at m ⊢
        rcases m with h | h | h | ((h | h) | h) <;> simp_all)]
      exact e1
  refine ⟨s2.mut (by simp) trivial, n1.le.mutF (n.fr P (by simp)) n1.hP trivial, ?_, fun c hc => ?_, fun c hc => ?_, ?_, ?_, ?_, ?_⟩
  · have a1 : L ≠ P := Ne.symm pL
    have a2 : L ≠ D := Ne.symm (eL D (by simp))
    have a3 : L ≠ C := Ne.symm (eL C (by simp))
    have a4 : L ∉ Ls := fun m => eL L (by simp [m]) rfl
    simp only [List.nodup_cons, List.mem_cons, List.mem_append, List.mem_singleton, not_or, List.nodup_append]
    refine ⟨⟨h1, h2, h3, pL, List.not_mem_nil⟩, ⟨h4, h5, Ne.symm a2, List.not_mem_nil⟩, ⟨h6, Ne.symm a3, List.not_mem_nil⟩, h7, ⟨List.not_mem_nil, List.nodup_nil⟩, fun y hy z hz e => ?_⟩
    rcases hz with rfl | hz
    · exact a4 (by rw [← e]; exact hy)
    · exact List.not_mem_nil hz
  · simp only [List.mem_cons, List.mem_append, List.mem_singleton] at hc
    rcases hc with h | h | h | h | h | h
    · exact n.ns c (by simp [h])
    · exact n.ns c (by simp [h])
    · exact n.ns c (by simp [h])
    · exact n.ns c (by simp [h])
    · rw [h]
      exact lS
    · exact absurd h List.not_mem_nil
  · simp only [List.mem_cons, List.mem_append, List.mem_singleton] at hc
    rcases hc with h | h | h | h | h | h
    · exact n.fr c (by simp [h])
    · exact n.fr c (by simp [h])
    · exact n.fr c (by simp [h])
    · exact n.fr c (by simp [h])
    · rw [h]
      exact l0
    · exact absurd h List.not_mem_nil
  · rw [upd_same, List.map_append] <;> rfl
  · show upd _ _ _ _ = _
    rw [upd_ne (Ne.symm h1)]
    exact n1.hD
  · rw [upd_ne (Ne.symm h2)]
    exact n1.hC
  · have hA : Paired (fun L xs => upd (upd H L (.lst [.int x])) P (.lst (Ls.map V.ref ++ [.ref L])) L = some (.lst (List.map V.int xs))) [] ([] : List (List Int)) := .nil
    refine Paired.snoc (paired_mono n1.hL fun M xs hM h => ?_) ?_
    · rw [upd_ne fun z => h3 (by rw [← z]; exact hM)]
      exact h
    · rw [upd_ne (Ne.symm pL), upd_same]
      rfl
/-- the last part grows -/
theorem NS.grow {L : Addr} {Ls' : List Addr} {parts' : List (List Int)} {xs : List Int} {x : Int} (n : NS T S G H0 P D C (Ls' ++ [L]) (parts' ++ [xs], told, a, b) H) : NS T S G H0 P D C (Ls' ++ [L]) (parts' ++ [xs ++ [x]], told, a, b) (upd H L (.lst (xs.map V.int ++ [.int x]))) := by
  have nd := n.nd
  simp only [List.nodup_cons, List.mem_cons, List.mem_append, List.mem_singleton, not_or, List.nodup_append] at nd
  obtain ⟨⟨h1, h2, h3, pL, _⟩, ⟨h4, h5, dL, _⟩, ⟨h6, cL, _⟩, h7, _, h8⟩ := nd
  obtain ⟨q1, q2⟩ : Paired (fun L xs => H L = some (.lst (List.map V.int xs))) Ls' parts' ∧ H L = some (.lst (xs.map V.int)) := by
    have hl := n.hL
    have : ∀ {A : List Addr} {B : List (List Int)} {L : Addr} {xs : List Int}, Paired (fun L xs => H L = some (.lst (List.map V.int xs))) (A ++ [L]) (B ++ [xs]) → Paired (fun L xs => H L = some (.lst (List.map V.int xs))) A B ∧ H L = some (.lst (xs.map V.int)) := by
      intro A
      induction A with
      | nil =>
        intro B L xs h
        cases B with
        | nil =>
          cases h with
          | cons h t => exact ⟨.nil, h⟩
        | cons y B =>
          cases h with
          | cons h t => cases B <;> cases t
      | cons a A ih =>
        intro B L xs h
        cases B with
        | nil =>
          cases h with
          | cons h t => cases A <;> cases t
        | cons y B =>
          cases h with
          | cons h t =>
            obtain ⟨i1, i2⟩ := ih t
            exact ⟨.cons h i1, i2⟩
    exact this hl
  refine ⟨n.s.mut (by simp) trivial, n.le.mutF (n.fr L (by simp)) q2 trivial, n.nd, n.ns, n.fr, by rw [upd_ne pL]; exact n.hP, by show upd _ _ _ _ = _; rw [upd_ne dL]; exact n.hD, by rw [upd_ne cL]; exact n.hC, ?_⟩
  refine Paired.snoc (paired_mono q1 fun M ys hM h => ?_) ?_
  · rw [upd_ne fun z => h8 M hM L (.inl rfl) z]
    exact h
  · rw [upd_same, List.map_append] <;> rfl
theorem paired_last : ∀ {A : List Addr} {B : List (List Int)} {L : Addr} {xs : List Int}, Paired (fun L xs => H L = some (.lst (List.map V.int xs))) (A ++ [L]) (B ++ [xs]) → H L = some (.lst (xs.map V.int))
  | [], [], L, xs, h => by
    cases h with
    | cons h t => exact h
  | [], y :: B, L, xs, h => by
    cases h with
    | cons h t => cases B <;> cases t
  | a :: A, [], L, xs, h => by
    cases h with
    | cons h t => cases A <;> cases t
  | a :: A, y :: B, L, xs, h => by
    cases h with
    | cons h t => exact paired_last t
theorem NS.lastL {L : Addr} {Ls' : List Addr} {parts' : List (List Int)} {xs : List Int} (n : NS T S G H0 P D C (Ls' ++ [L]) (parts' ++ [xs], told, a, b) H) : H L = some (.lst (xs.map V.int)) := paired_last n.hL
end
theorem split_last {α : Type} {l : List α} (h : l ≠ []) (d : α) : l = l.dropLast ++ [l.getLastD d] := by
  rw [List.getLastD_eq_getLast?, List.getLast?_eq_getLast h]
  exact (List.dropLast_concat_getLast h).symm
theorem getLastD_mem {α : Type} {l : List α} (h : l ≠ []) (d : α) : l.getLastD d ∈ l := by
  rw [List.getLastD_eq_getLast?, List.getLast?_eq_getLast h]
  exact List.getLast_mem h
theorem atL_last {α : Type} {l : List α} (h : l ≠ []) (d : α) : atI l (-1) = some (l.getLastD d) := by
  have hl : 0 < l.length := List.length_pos_iff.mpr h
  unfold atI ixN
  rw [if_neg (by omega), if_pos (by omega)]
  rw [List.getLastD_eq_getLast?, List.getLast?_eq_getElem?]
  have e : (-1 + (l.length : Int)).toNat = l.length - 1 := by omega
  rw [e]
  show l[l.length - 1]? = _
  rw [List.getElem?_eq_getElem (by omega)]
  rfl
theorem atL_head {α : Type} {l : List α} (h : l ≠ []) (d : α) : atI l 0 = some (l.headD d) := by
  cases l with
  | nil => exact absurd rfl h
  | cons a l =>
    unfold atI ixN
    rw [if_pos (by omega), if_pos (by simp only [List.length_cons]; omega)]
    rfl
theorem norm_go : ∀ (ps : List (List Int)) (f : List Int), (ps.foldl (fun f s => f ++ isort s) f).length = f.length + ps.flatten.length
  | [], f => by simp
  | p :: ps, f => by
    rw [List.foldl_cons, norm_go ps]
    simp only [List.length_append, List.flatten_cons, (isort_perm p).length_eq]
    omega
theorem take_flat : ∀ (ps : List (List Int)) (i : Nat), (ps.take i).flatten.length ≤ ps.flatten.length
  | [], i => by simp
  | p :: ps, 0 => by simp
  | p :: ps, i + 1 => by
    have := take_flat ps i
    simp only [List.take_succ_cons, List.flatten_cons, List.length_append]
    omega
theorem rev_flat : ∀ ps : List (List Int), ps.reverse.flatten.length = ps.flatten.length
  | [] => rfl
  | p :: ps => by
    have := rev_flat ps
    simp only [List.reverse_cons, List.flatten_append, List.length_append, List.flatten_cons, List.flatten_nil, List.append_nil, this]
    omega
theorem norm_len (ps : List (List Int)) (i : Nat) : ((ps.reverse.take i).foldl (fun f s => f ++ isort s) []).length ≤ ps.flatten.length := by
  rw [norm_go, List.length_nil, Nat.zero_add]
  have := take_flat ps.reverse i
  rw [rev_flat] at this
  exact this
theorem part_len : ∀ {ps : List (List Int)} {p : List Int}, p ∈ ps → p.length ≤ ps.flatten.length
  | q :: ps, p, h => by
    rw [List.flatten_cons, List.length_append]
    rcases List.mem_cons.mp h with rfl | h
    · omega
    · have := part_len h
      omega
end K4
end
section
set_option Elab.async false
set_option linter.all false
set_option maxRecDepth 100000
set_option maxHeartbeats 4000000
namespace K4
open PySem PySem.Spec PyProof.Rows L2 PySem.W
abbrev LSt := List (List Int) × List (Int × Bool)
def lcnt (p : Int → Bool) (u : List (Int × Bool)) : Int := (((u.map (·.1)).filter p).length : Int)
def lstep (r c : Int) (st : LSt) (x : Int) : LSt :=
  if (!(getD' st.2 x).isSome && (decide (lcnt (fun y => decide (y < r)) st.2 < r) && decide (lcnt (fun y => decide (r ≤ y)) st.2 < c))) = true then
    (if (decide (st.1 ≠ []) && decide (decide ((st.1.headD []).headD 0 < r) = decide (x < r))) = true then isort (st.1.headD [] ++ [x]) :: st.1.tail else [x] :: st.1, putD st.2 x true)
  else st
def lrun (r c : Int) (xs : List Int) : LSt := xs.foldl (lstep r c) ([], [])
def mLNormal (r c : Int) (lines : List Int) : Tup Int := Tup.mk ((lrun r c lines.reverse).1.foldl (fun f s => f ++ s) [])
theorem lrun_ok (r c : Int) : ∀ (xs : List Int) (st : LSt), (∀ p ∈ st.1, p ≠ []) → (∀ p ∈ (xs.foldl (lstep r c) st).1, p ≠ []) ∧ (xs.foldl (lstep r c) st).1.length ≤ st.1.length + xs.length ∧ (xs.foldl (lstep r c) st).1.flatten.length ≤ st.1.flatten.length + xs.length ∧ (xs.foldl (lstep r c) st).2.length ≤ st.2.length + xs.length
  | [], st, h => ⟨h, Nat.le_refl _, Nat.le_refl _, Nat.le_refl _⟩
  | x :: xs, st, h => by
    have key : (∀ p ∈ (lstep r c st x).1, p ≠ []) ∧ (lstep r c st x).1.length ≤ st.1.length + 1 ∧ (lstep r c st x).1.flatten.length ≤ st.1.flatten.length + 1 ∧ (lstep r c st x).2.length ≤ st.2.length + 1 := by
      obtain ⟨ps, u⟩ := st
      unfold lstep
      split
      · refine ⟨?_, ?_, ?_, putD_len _ _ _⟩
        · dsimp only
          split
          · intro p hp
            rcases List.mem_cons.mp hp with rfl | hp
            · intro z
              have := (isort_perm (ps.headD [] ++ [x])).length_eq
              rw [z] at this
              simp at this
            · exact h p (List.mem_of_mem_tail hp)
          · intro p hp
            rcases List.mem_cons.mp hp with rfl | hp
            · simp
            · exact h p hp
        · dsimp only
          split <;> simp <;> omega
        · dsimp only
          split
          · cases ps with
            | nil =>
              simp [(isort_perm _).length_eq]
            | cons p ps =>
              simp only [List.flatten_cons, List.length_append, (isort_perm _).length_eq, List.headD_cons, List.tail_cons, List.length_cons, List.length_nil]
              omega
          · simp
      · exact ⟨h, by omega, by omega, by omega⟩
    obtain ⟨k1, k2, k3, k4⟩ := key
    obtain ⟨a1, a2, a3, a4⟩ := lrun_ok r c xs (lstep r c st x) k1
    rw [List.foldl_cons, List.length_cons]
    exact ⟨a1, by omega, by omega, by omega⟩
structure LN (T : List (Addr × Str)) (S : List Addr) (G H0 : Hp) (P D : Addr) (S' : List Addr) (st : LSt) (H : Hp) : Prop where
  s : Sg T G S' H
  le : Le T H0 H
  sub : ∀ b ∈ S, b ∈ S'
  mP : P ∈ S'
  mD : D ∈ S'
  nP : P ∉ S
  nD : D ∉ S
  fP : Frh H0 P
  fD : Frh H0 D
  hP : ∃ vs, H P = some (.lst vs) ∧ RepAll (hd S' H) vs st.1
  hD : IsDI H D st.2
section
variable {T : List (Addr × Str)} {S S' : List Addr} {G H0 H H1 : Hp} {P D : Addr} {st : LSt} {parts : List (List Int)} {used : List (Int × Bool)}
theorem LN.rd (n : LN T S G H0 P D S' st H) : Sg T (hd S H) S H := ⟨fun b hb => n.s.dom b (n.sub b hb), .same⟩
theorem LN.go (n : LN T S G H0 P D S' st H) (e : Le T H H1) : LN T S G H0 P D S' st H1 := by
  obtain ⟨vs, h1, h2⟩ := n.hP
  exact ⟨n.s.go e, n.le.trans e, n.sub, n.mP, n.mD, n.nP, n.nD, n.fP, n.fD, ⟨vs, e.lst h1, h2.le (e.hd n.s.dom)⟩, e.dK n.hD⟩
theorem LN.base (n : LN T S G H0 P D S' st H) : LN T S (hd S' H) H0 P D S' st H := ⟨⟨n.s.dom, .same⟩, n.le, n.sub, n.mP, n.mD, n.nP, n.nD, n.fP, n.fD, n.hP, n.hD⟩
theorem le_rev (sub : ∀ b ∈ S, b ∈ S') : Le T (hd S' H) (hd S H) := .of fun b u e => by
  obtain ⟨e1, e2⟩ := hd_some e
  rw [hd_out fun m => e2 (sub b m)]
  exact e1
theorem LN.reps (n : LN T S G H0 P D S' st H) : Rep (hd S H) (.ref P) st.1 := by
  obtain ⟨vs, h1, h2⟩ := n.hP
  exact rep_lst (by rw [hd_out n.nP]; exact h1) (h2.le (le_rev (T := T) n.sub))
theorem LN.repD (n : LN T S G H0 P D S' st H) : IsDI (hd S H) D st.2 := by
  show hd S H D = _
  rw [hd_out n.nD]
  exact n.hD
theorem LN.le0 (n : LN T S G H0 P D S' st H) : Le T G (hd S H) := n.s.le.trans (le_rev n.sub)
theorem LN.ne (n : LN T S G H0 P D S' st H) : P ≠ D := fun z => by
  obtain ⟨vs, h1, _⟩ := n.hP
  have h2 : H D = _ := n.hD
  rw [← z, h1] at h2
  cases h2
theorem LN.setD {m : List (Int × Bool)} (n : LN T S G H0 P D S' (parts, used) H) : LN T S G H0 P D S' (parts, m) (upd H D (.dK (m.map kI))) := by
  obtain ⟨vs, h1, h2⟩ := n.hP
  exact ⟨n.s.mut n.mD trivial, n.le.mutF n.fD n.hD trivial, n.sub, n.mP, n.mD, n.nP, n.nD, n.fP, n.fD, ⟨vs, by rw [upd_ne n.ne]; exact h1, by rw [hd_upd n.mD]; exact h2⟩, upd_same⟩
theorem LN.setP {ps : List (List Int)} {vs : List V} (n : LN T S G H0 P D S' (parts, used) H) (hr : RepAll (hd S' H) vs ps) : LN T S G H0 P D S' (ps, used) (upd H P (.lst vs)) := by
  obtain ⟨ws, h1, h2⟩ := n.hP
  exact ⟨n.s.mut n.mP trivial, n.le.mutF n.fP h1 trivial, n.sub, n.mP, n.mD, n.nP, n.nD, n.fP, n.fD, ⟨vs, upd_same, by rw [hd_upd n.mP]; exact hr⟩, by show upd _ _ _ _ = _; rw [upd_ne n.ne.symm]; exact n.hD⟩
theorem LN.newP {P' : Addr} {ps : List (List Int)} {vs : List V} (n : LN T S G H0 P D S' (parts, used) H) (hn : H P' = none) (hr : RepAll (hd S' H) vs ps) : LN T S G H0 P' D (P' :: S') (ps, used) (upd H P' (.lst vs)) := by
  have nS : P' ∉ S' := n.s.fresh hn
  have nD : D ≠ P' := fun z => nS (by rw [← z]; exact n.mD)
  refine ⟨n.s.hide hn trivial, n.le.trans (.new hn), fun b hb => List.mem_cons_of_mem _ (n.sub b hb), List.mem_cons_self, List.mem_cons_of_mem _ n.mD, fun m => nS (n.sub _ m), n.nD, Frh.of n.le hn, n.fD, ⟨vs, upd_same, ?_⟩, by show upd _ _ _ _ = _; rw [upd_ne nD]; exact n.hD⟩
  rw [hd_upd List.mem_cons_self]
  exact hr.le (.of fun b u e => by
    obtain ⟨e1, e2⟩ := hd_some e
    rw [hd_out (by
      simp only [List.mem_cons, not_or]
      exact ⟨ne_of_none e1 hn, e2⟩)]
    exact e1 : Le T (hd S' H) (hd (P' :: S') H))
/-- what is new is not among the hidden -/
theorem new_out {p : Addr} {S2 : List Addr} (np : p ∉ S) (le : Le T (hd S H) (hd (p :: S) H1)) (dom : Dom S2 H) : p ∉ S2 := fun m => by
  obtain ⟨o, h, so⟩ := dom p m
  have h2 : hd S H p = some o := by rw [hd_out np]; exact h
  have h3 := le.soft h2 so
  rw [hd_in List.mem_cons_self] at h3
  cases h3
end
theorem cat_go : ∀ (ps : List (List Int)) (f : List Int), (ps.foldl (fun f s => f ++ s) f).length = f.length + ps.flatten.length
  | [], f => by simp
  | p :: ps, f => by
    rw [List.foldl_cons, cat_go ps]
    simp only [List.length_append, List.flatten_cons]
    omega
theorem ixN0 {α : Type} {a : α} {l : List α} : ixN (a :: l).length 0 = some 0 := by
  unfold ixN
  rw [if_pos (by omega), if_pos (by simp only [List.length_cons]; omega)]
  rfl
end K4
end
section
set_option Elab.async false
set_option linter.all false
set_option maxRecDepth 100000
set_option maxHeartbeats 4000000
/-! the mirror, 3: measures -/
namespace K4
open PySem PySem.W
abbrev DMeas := List (Tup Int × Int)
def mShared (m : DMeas) : Int := m.foldl (fun s e => mGcd e.2 s) 0
def valD (m : DMeas) (k : Tup Int) : Int := (getD' m k).getD 0
def mTidied (m : DMeas) : Meas := Tup.mk (((lsort (m.map fun e => e.1.items)).map Tup.mk).map fun k => (k, valD m k / mShared m))
def dictOf (m : List (Tup Int × Int)) : DMeas := m.foldl (fun acc e => putD acc e.1 e.2) []
section
variable {κ β : Type} [DecidableEq κ]
theorem getD'_mem {m : List (κ × β)} {k : κ} {v : β} (h : getD' m k = some v) : (k, v) ∈ m := by
  unfold getD' at h
  cases e : m.find? fun e => decide (e.1 = k) with
  | none => rw [e] at h; cases h
  | some x =>
    rw [e] at h
    have h1 := List.mem_of_find?_eq_some e
    have h2 := List.find?_some e
    have e2 : x.2 = v := Option.some.inj h
    have e1 : x.1 = k := of_decide_eq_true h2
    rw [← e1, ← e2]
    exact h1
theorem getD'_of {m : List (κ × β)} (hn : (m.map (·.1)).Nodup) {k : κ} {v : β} (h : (k, v) ∈ m) : getD' m k = some v := by
  unfold getD'
  induction m with
  | nil => cases h
  | cons e m ih =>
    rw [List.map_cons, List.nodup_cons] at hn
    rw [List.find?_cons]
    rcases List.mem_cons.mp h with rfl | h
    · simp
    · have : ¬ e.1 = k := fun z => hn.1 (by rw [z]; exact List.mem_map.mpr ⟨_, h, rfl⟩)
      rw [decide_eq_false this]
      exact ih hn.2 h
theorem getD'_some {m : List (κ × β)} {k : κ} (h : k ∈ m.map (·.1)) : ∃ v, getD' m k = some v := by
  unfold getD'
  cases e : m.find? fun e => decide (e.1 = k) with
  | none =>
    obtain ⟨x, hx, e2⟩ := List.mem_map.mp h
    have := List.find?_eq_none.mp e x hx
    exact absurd (decide_eq_true e2) this
  | some x => exact ⟨x.2, rfl⟩
end
theorem shared_go : ∀ (m : DMeas) (s : Int), 0 ≤ s → (∀ e ∈ m, 1 ≤ e.2) → 0 ≤ m.foldl (fun s e => mGcd e.2 s) s ∧ (m ≠ [] → 0 < m.foldl (fun s e => mGcd e.2 s) s) ∧ (∀ e ∈ m, m.foldl (fun s e => mGcd e.2 s) s ≤ e.2)
  | [], s, h, _ => ⟨h, fun z => absurd rfl z, fun e he => nomatch he⟩
  | e :: m, s, h, hp => by
    have h1 := hp e List.mem_cons_self
    have hg : 0 < mGcd e.2 s := by
      unfold mGcd
      have : 0 < Int.gcd e.2 s := Nat.pos_of_ne_zero fun z => by
        rw [Int.gcd_eq_zero_iff] at z
        omega
      omega
    have hle : mGcd e.2 s ≤ e.2 := by
      unfold mGcd
      exact Int.le_of_dvd (by omega) (Int.gcd_dvd_left ..)
    obtain ⟨a, b, c⟩ := shared_go m (mGcd e.2 s) (by omega) (fun x hx => hp x (List.mem_cons_of_mem _ hx))
    rw [List.foldl_cons]
    have mono : ∀ (m : DMeas) (s : Int), 0 < s → m.foldl (fun s e => mGcd e.2 s) s ≤ s ∧ 0 < m.foldl (fun s e => mGcd e.2 s) s := by
      intro m
      induction m with
      | nil => exact fun s hs => ⟨Int.le_refl _, hs⟩
      | cons x m ih =>
        intro s hs
        obtain ⟨i1, i2⟩ := ih (mGcd x.2 s) (mGcd_pos hs)
        exact ⟨Int.le_trans i1 (mGcd_le hs), i2⟩
    obtain ⟨q1, q2⟩ := mono m _ hg
    refine ⟨a, fun _ => q2, fun x hx => ?_⟩
    rcases List.mem_cons.mp hx with rfl | hx
    · exact Int.le_trans q1 hle
    · exact c x hx
end K4
end
section
set_option Elab.async false
set_option linter.all false
set_option maxRecDepth 100000
set_option maxHeartbeats 4000000
namespace K4
open PySem PySem.Spec PyProof.Rows L2 PySem.W
variable {P : Program} {w : World} {K : PySem.W.Frag} {mg : Str → Option Value} {base : Heap} {T : List (Addr × Str)}

/-! ### fractions -/
def sp_common (K : PySem.W.Frag) (T : List (Addr × Str)) : Sp := Pu2 T (fun a b => 0 ≤ a ∧ 0 ≤ b) mGcd
abbrev n_common : List Str := ["one", "other"]
theorem sc_common : FnScope n_common ["one", "other"] (defScope s_common) := ⟨rfl, rfl, rfl, by decide +kernel, rfl, by decide +kernel, by decide +kernel⟩
def t_common (K : PySem.W.Frag) (T : List (Addr × Str)) : TS := (tSeq (tWhile (tTest (tOp (rI0 fun i j => .bl (decide (j < i))) (tVar 1) (tC (.int 0)))) (tPar 0 1 (tCons (tVar 1) (tCons (tOp (rI (fun _ j => 0 < j) fun i j => .int (i % j)) (tVar 0) (tVar 1)) tNil))))
  (tRet (tVar 0)))
theorem der_common {k : Nat} {f : Addr} {cdv : Value} {A : Around} {outer : List Env} {s : Shared} {H : Hp} {E : XK} (F : Fx mg) (hr : Room k (A.deeper (envOfC "common" (defScope s_common) s.heap.objs.size f cdv))) :
    PSs (cxOf CX0 P w K mg base n_common "common" (defScope s_common) f cdv A outer s H E).nox (defBody s_common) (t_common K T) :=
  (pss_cons (ps_while PassesOwn.never (pt_cmpR (op_gt) (pv 1) pe_int (nomark _)) (pss_one (ps_par (i := 0) (j := 1) rfl sc_common.nd rfl rfl (by decide) rfl rfl (pa_cons (pv 1) (pa_cons (pe_op op_mod (pv 0) (pv 1)) pa_nil)) (by rfl))))
  (pss_one (ps_ret (pv 0))))
theorem pure_common (vs : List V) (H : Hp) (Q : VK) (E : XK) (h : sp_common K T vs H Q E) : t_common K T { nx := fun _ H' => Q .non H', rt := Q } (start n_common vs) H := by
  obtain ⟨S, v, u, a, b, dom, rfl, ha, hb, ⟨pa, pb⟩, q⟩ := h
  obtain rfl := of_int ha
  obtain rfl := of_int hb
  refine ⟨fun m σ H' => ∃ x y : Int, 0 ≤ x ∧ 0 ≤ y ∧ m = y.toNat ∧ σ = [some (.int x), some (.int y)] ∧ Int.gcd x y = Int.gcd a b ∧ H' = H, ⟨_, a, b, pa, pb, rfl, rfl, rfl, rfl⟩, fun m σ H' hw => ?_⟩
  obtain ⟨x, y, hx, hy, rfl, rfl, hg, rfl⟩ := hw
  refine ⟨.int y, rfl, y, 0, rfl, rfl, _, rfl, ite2 (fun e => ?_) (fun e => ?_)⟩
  · have hpos : 0 < y := of_decide_eq_true e
    refine ⟨fun σ' H'' => ∃ x' y' : Int, 0 ≤ x' ∧ 0 ≤ y' ∧ y' < y ∧ σ' = [some (.int x'), some (.int y')] ∧ Int.gcd x' y' = Int.gcd a b ∧ H'' = H', fun σ' H'' hn => ?_, ?_⟩
    · obtain ⟨x', y', h1, h2, h3, h4, h5, h6⟩ := hn
      exact ⟨y'.toNat, by omega, x', y', h1, h2, rfl, h4, h5, h6⟩
    · refine ⟨.int y, rfl, .int x, rfl, .int y, rfl, x, y, rfl, rfl, hpos, .int y, .int (x % y), rfl, y, x % y, hy, Int.emod_nonneg _ (by omega), Int.emod_lt_of_pos _ hpos, rfl, ?_, rfl⟩
      rw [← hg, gcd_step hx hpos]
  · have h0 : y = 0 := by
      have : ¬ 0 < y := fun z => e (decide_eq_true z)
      omega
    subst h0
    refine ⟨.int x, rfl, q _ _ .same ?_⟩
    unfold mGcd
    rw [← hg, Int.gcd_zero]
    have : ((x.natAbs : Nat) : Int) = x := by omega
    rw [this]
    exact rep_int
theorem cal_common {k : Nat} (D : At K mg "common" s_common) (F : Fx mg) : Cal P w K mg base (k + 1) "common" ["one", "other"] (sp_common K T) :=
  mk_cal D sc_common (fun _ _ _ _ _ _ us hl => match us, hl with | [_, _], _ => rfl) (Pu2.len rfl) (fun f cdv A outer s H E hr => der_common F hr) (fun vs H Q E h => pure_common vs H Q E h)
def sp_lowered (K : PySem.W.Frag) (T : List (Addr × Str)) : Sp := Pu2 T (fun a b => 0 < b ∧ b < 4611686018427387904) mFr
abbrev n_lowered : List Str := ["above", "low", "shared"]
theorem sc_lowered : FnScope n_lowered ["above", "low"] (defScope s_lowered) := ⟨rfl, rfl, rfl, by decide +kernel, rfl, by decide +kernel, by decide +kernel⟩
def t_lowered (K : PySem.W.Frag) (T : List (Addr × Str)) : TS := (tSeq (tAsg (tCall (sp_common K T) [] E0 (tCons (tCB rAbs (tCons (tVar 0) tNil)) (tCons (tVar 1) tNil))) (gName 2))
  (tRet (tTup (tCons (tOp (rI CDivW fun i j => .int (i / j)) (tVar 0) (tVar 2)) (tCons (tOp (rI CDivW fun i j => .int (i / j)) (tVar 1) (tVar 2)) tNil)))))
theorem der_lowered {k : Nat} {f : Addr} {cdv : Value} {A : Around} {outer : List Env} {s : Shared} {H : Hp} {E : XK} (F : Fx mg) (C_common : Cal P w K mg base k "common" ["one", "other"] (sp_common K T)) (hr : Room k (A.deeper (envOfC "lowered" (defScope s_lowered) s.heap.objs.size f cdv))) :
    PSs (cxOf CX0 P w K mg base n_lowered "lowered" (defScope s_lowered) f cdv A outer s H E).nox (defBody s_lowered) (t_lowered K T) :=
  (pss_cons (ps_set (i := 2) sc_lowered.nd rfl (.inl rfl) (pe_cal C_common hr (by rfl) (pa_cons (pe_callB call_abs (by rfl) F.b_abs (by decide +kernel) (pa_cons (pv 0) pa_nil)) (pa_cons (pv 1) pa_nil))))
  (pss_one (ps_ret (pe_tup (pa_cons (pe_op op_fdivW (pv 0) (pv 2)) (pa_cons (pe_op op_fdivW (pv 1) (pv 2)) pa_nil))))))
theorem div_ok {g b : Int} (h : 0 < g) (hb : g ≤ b) (h2 : b < 4611686018427387904) : CDivW g g → True := fun _ => trivial
theorem cdiv {a g : Int} (h : 0 < g) (hb : g < 4611686018427387904) : CDivW a g := wide_div (b := 62) h (by omega) (by decide) (by decide)
theorem pure_lowered (vs : List V) (H : Hp) (Q : VK) (E : XK) (h : sp_lowered K T vs H Q E) : t_lowered K T { nx := fun _ H' => Q .non H', rt := Q } (start n_lowered vs) H := by
  obtain ⟨S, v, u, a, b, dom, rfl, ha, hb, ⟨pa, pb⟩, q⟩ := h
  have s0 : Sg T (hd S H) S H := ⟨dom, .same⟩
  have hg := mGcd_pos (a := a) pa
  have hl := mGcd_le (a := a) pa
  have e1 : EvR T (tCB rAbs (tCons (tVar 0) tNil)) (start n_lowered [v, u]) (hd S H) (if a < 0 then -a else a) := fun S1 H1 s1 Q1 q1 => ⟨v, rfl, a, by rw [of_int ha], q1 _ _ .same rep_int⟩
  refine q_asg s0 (ev_call2 e1 (ev_var rfl hb) ⟨by split <;> omega, by omega⟩) fun x H1 l1 r1 => ?_
  rw [mGcd_abs] at r1
  refine s_ret (s0.go l1).up (ev_tup2 (ev_opI (ev_var rfl (ha.le (l1.hd dom))) (ev_var rfl r1) (cdiv hg (by omega))) (ev_opI (ev_var rfl (hb.le (l1.hd dom))) (ev_var rfl r1) (cdiv hg (by omega)))) fun y H2 l2 r2 => q _ _ (l1.trans l2) r2
theorem cal_lowered {k : Nat} (D : At K mg "lowered" s_lowered) (F : Fx mg) (C_common : Cal P w K mg base k "common" ["one", "other"] (sp_common K T)) : Cal P w K mg base (k + 1) "lowered" ["above", "low"] (sp_lowered K T) :=
  mk_cal D sc_lowered (fun _ _ _ _ _ _ us hl => match us, hl with | [_, _], _ => rfl) (Pu2.len rfl) (fun f cdv A outer s H E hr => der_lowered F C_common hr) (fun vs H Q E h => pure_lowered vs H Q E h)

end K4
end
section
set_option Elab.async false
set_option linter.all false
set_option maxRecDepth 100000
set_option maxHeartbeats 4000000
namespace K4
open PySem PySem.Spec PyProof.Rows L2 PySem.W
variable {P : Program} {w : World} {K : PySem.W.Frag} {mg : Str → Option Value} {base : Heap} {T : List (Addr × Str)}

abbrev B30 : Int := 1073741824
theorem mulB {a b : Int} (h1 : 0 < a) (h2 : a ≤ B30) (h3 : 0 < b) (h4 : b ≤ B30) : 0 < a * b ∧ a * b < 4611686018427387904 := by
  have h5 := Int.mul_le_mul h2 h4 (by omega) (by decide)
  have h6 := Int.mul_pos h1 h3
  have e : B30 * B30 = 1152921504606846976 := by decide
  omega
theorem cmulR {a b : Int} (h1 : -B30 ≤ b) (h2 : b ≤ B30) : CMul a b := .inr ⟨by unfold B30 at h1; omega, by unfold B30 at h2; omega⟩
def okP (p q : Int × Int) : Prop := 0 < p.2 ∧ p.2 ≤ B30 ∧ 0 < q.2 ∧ q.2 ≤ B30
def sp_plus (K : PySem.W.Frag) (T : List (Addr × Str)) : Sp := Pu2 T okP mPlus
abbrev n_plus : List Str := ["one", "other"]
theorem sc_plus : FnScope n_plus ["one", "other"] (defScope s_plus) := ⟨rfl, rfl, rfl, by decide +kernel, rfl, by decide +kernel, by decide +kernel⟩
def t_plus (K : PySem.W.Frag) (T : List (Addr × Str)) : TS := (tRet (tCall (sp_lowered K T) [] E0 (tCons (tOp (rI0 fun i j => .int (i + j)) (tOp (rI CMul fun i j => .int (i * j)) (tOp (rIxT K) (tVar 0) (tC (.int 0))) (tOp (rIxT K) (tVar 1) (tC (.int 1)))) (tOp (rI CMul fun i j => .int (i * j)) (tOp (rIxT K) (tVar 1) (tC (.int 0))) (tOp (rIxT K) (tVar 0) (tC (.int 1))))) (tCons (tOp (rI CMul fun i j => .int (i * j)) (tOp (rIxT K) (tVar 0) (tC (.int 1))) (tOp (rIxT K) (tVar 1) (tC (.int 1)))) tNil))))
theorem der_plus {k : Nat} {f : Addr} {cdv : Value} {A : Around} {outer : List Env} {s : Shared} {H : Hp} {E : XK} (F : Fx mg) (C_lowered : Cal P w K mg base k "lowered" ["above", "low"] (sp_lowered K T)) (hr : Room k (A.deeper (envOfC "plus" (defScope s_plus) s.heap.objs.size f cdv))) :
    PSs (cxOf CX0 P w K mg base n_plus "plus" (defScope s_plus) f cdv A outer s H E).nox (defBody s_plus) (t_plus K T) :=
  (pss_one (ps_ret (pe_cal C_lowered hr (by rfl) (pa_cons (pe_op op_add (pe_op op_mul (pe_ix ix_tup (pv 0) pe_int (fun _ _ => rfl)) (pe_ix ix_tup (pv 1) pe_int (fun _ _ => rfl))) (pe_op op_mul (pe_ix ix_tup (pv 1) pe_int (fun _ _ => rfl)) (pe_ix ix_tup (pv 0) pe_int (fun _ _ => rfl)))) (pa_cons (pe_op op_mul (pe_ix ix_tup (pv 0) pe_int (fun _ _ => rfl)) (pe_ix ix_tup (pv 1) pe_int (fun _ _ => rfl))) pa_nil)))))
theorem pure_plus (vs : List V) (H : Hp) (Q : VK) (E : XK) (h : sp_plus K T vs H Q E) : t_plus K T { nx := fun _ H' => Q .non H', rt := Q } (start n_plus vs) H := by
  obtain ⟨S, v, u, p, q0, dom, rfl, ha, hb, ⟨p1, p2, p3, p4⟩, q⟩ := h
  have s0 : Sg T (hd S H) S H := ⟨dom, .same⟩
  have A : EvR T (tVar 0) (start n_plus [v, u]) (hd S H) p := ev_var rfl ha
  have B : EvR T (tVar 1) (start n_plus [v, u]) (hd S H) q0 := ev_var rfl hb
  exact s_ret s0 (ev_call2 (ev_opI0 (ev_opI (ev_fst A) (ev_snd B) (cmulR (by unfold B30; omega) p4)) (ev_opI (ev_fst B) (ev_snd A) (cmulR (by unfold B30; omega) p2))) (ev_opI (ev_snd A) (ev_snd B) (cmulR (by unfold B30; omega) p4)) (mulB p1 p2 p3 p4)) q
theorem cal_plus {k : Nat} (D : At K mg "plus" s_plus) (F : Fx mg) (C_lowered : Cal P w K mg base k "lowered" ["above", "low"] (sp_lowered K T)) : Cal P w K mg base (k + 1) "plus" ["one", "other"] (sp_plus K T) :=
  mk_cal D sc_plus (fun _ _ _ _ _ _ us hl => match us, hl with | [_, _], _ => rfl) (Pu2.len rfl) (fun f cdv A outer s H E hr => der_plus F C_lowered hr) (fun vs H Q E h => pure_plus vs H Q E h)
def sp_times (K : PySem.W.Frag) (T : List (Addr × Str)) : Sp := Pu2 T (fun p q => okP p q ∧ -B30 ≤ q.1 ∧ q.1 ≤ B30) mTimes
abbrev n_times : List Str := ["one", "other"]
theorem sc_times : FnScope n_times ["one", "other"] (defScope s_times) := ⟨rfl, rfl, rfl, by decide +kernel, rfl, by decide +kernel, by decide +kernel⟩
def t_times (K : PySem.W.Frag) (T : List (Addr × Str)) : TS := (tRet (tCall (sp_lowered K T) [] E0 (tCons (tOp (rI CMul fun i j => .int (i * j)) (tOp (rIxT K) (tVar 0) (tC (.int 0))) (tOp (rIxT K) (tVar 1) (tC (.int 0)))) (tCons (tOp (rI CMul fun i j => .int (i * j)) (tOp (rIxT K) (tVar 0) (tC (.int 1))) (tOp (rIxT K) (tVar 1) (tC (.int 1)))) tNil))))
theorem der_times {k : Nat} {f : Addr} {cdv : Value} {A : Around} {outer : List Env} {s : Shared} {H : Hp} {E : XK} (F : Fx mg) (C_lowered : Cal P w K mg base k "lowered" ["above", "low"] (sp_lowered K T)) (hr : Room k (A.deeper (envOfC "times" (defScope s_times) s.heap.objs.size f cdv))) :
    PSs (cxOf CX0 P w K mg base n_times "times" (defScope s_times) f cdv A outer s H E).nox (defBody s_times) (t_times K T) :=
  (pss_one (ps_ret (pe_cal C_lowered hr (by rfl) (pa_cons (pe_op op_mul (pe_ix ix_tup (pv 0) pe_int (fun _ _ => rfl)) (pe_ix ix_tup (pv 1) pe_int (fun _ _ => rfl))) (pa_cons (pe_op op_mul (pe_ix ix_tup (pv 0) pe_int (fun _ _ => rfl)) (pe_ix ix_tup (pv 1) pe_int (fun _ _ => rfl))) pa_nil)))))
theorem pure_times (vs : List V) (H : Hp) (Q : VK) (E : XK) (h : sp_times K T vs H Q E) : t_times K T { nx := fun _ H' => Q .non H', rt := Q } (start n_times vs) H := by
  obtain ⟨S, v, u, p, q0, dom, rfl, ha, hb, ⟨⟨p1, p2, p3, p4⟩, p5, p6⟩, q⟩ := h
  have s0 : Sg T (hd S H) S H := ⟨dom, .same⟩
  have A : EvR T (tVar 0) (start n_times [v, u]) (hd S H) p := ev_var rfl ha
  have B : EvR T (tVar 1) (start n_times [v, u]) (hd S H) q0 := ev_var rfl hb
  exact s_ret s0 (ev_call2 (ev_opI (ev_fst A) (ev_fst B) (cmulR p5 p6)) (ev_opI (ev_snd A) (ev_snd B) (cmulR (by unfold B30; omega) p4)) (mulB p1 p2 p3 p4)) q
theorem cal_times {k : Nat} (D : At K mg "times" s_times) (F : Fx mg) (C_lowered : Cal P w K mg base k "lowered" ["above", "low"] (sp_lowered K T)) : Cal P w K mg base (k + 1) "times" ["one", "other"] (sp_times K T) :=
  mk_cal D sc_times (fun _ _ _ _ _ _ us hl => match us, hl with | [_, _], _ => rfl) (Pu2.len rfl) (fun f cdv A outer s H E hr => der_times F C_lowered hr) (fun vs H Q E h => pure_times vs H Q E h)
/-- the power's bound -/
theorem raised_den {p : Int × Int} (h1 : 0 < p.2) (h2 : p.2 ≤ 64) : ∀ i : Nat, i ≤ 4 → 0 < (mRaisedN p i).2 ∧ (mRaisedN p i).2 ≤ 64 ^ i
  | 0, _ => ⟨(by decide : (0 : Int) < 1), (by decide : (1 : Int) ≤ 64 ^ 0)⟩
  | i + 1, h => by
    obtain ⟨a, b⟩ := raised_den h1 h2 i (by omega)
    have c : (mRaisedN p i).2 * p.2 ≤ 64 ^ i * 64 := Int.mul_le_mul b h2 (by omega) (Int.pow_nonneg (by decide))
    have d : 0 < (mRaisedN p i).2 * p.2 := Int.mul_pos a h1
    refine ⟨mFr_den_pos d, Int.le_trans (mFr_den_le d) ?_⟩
    rw [Int.pow_succ]
    exact c
theorem p64 : ∀ i : Nat, i ≤ 4 → (64 : Int) ^ i ≤ B30 := by decide
def sp_raised (K : PySem.W.Frag) (T : List (Addr × Str)) : Sp := Pu2 T (fun p n => 0 ≤ n ∧ n ≤ 4 ∧ 0 < p.2 ∧ p.2 ≤ 64 ∧ -B30 ≤ p.1 ∧ p.1 ≤ B30) mRaised
abbrev n_raised : List Str := ["one", "many", "found", "turn"]
theorem sc_raised : FnScope n_raised ["one", "many"] (defScope s_raised) := ⟨rfl, rfl, rfl, by decide +kernel, rfl, by decide +kernel, by decide +kernel⟩
def t_raised (K : PySem.W.Frag) (T : List (Addr × Str)) : TS := (tSeq (tAsg (tTup (tCons (tC (.int 1)) (tCons (tC (.int 1)) tNil))) (gName 2))
  (tSeq (tFor (iRng1 (tCons (tVar 1) tNil)) (gName 3)
   (tAsg (tCall (sp_times K T) [] E0 (tCons (tVar 2) (tCons (tVar 0) tNil))) (gName 2)))
  (tRet (tVar 2))))
theorem der_raised {k : Nat} {f : Addr} {cdv : Value} {A : Around} {outer : List Env} {s : Shared} {H : Hp} {E : XK} (F : Fx mg) (C_times : Cal P w K mg base k "times" ["one", "other"] (sp_times K T)) (hr : Room k (A.deeper (envOfC "raised" (defScope s_raised) s.heap.objs.size f cdv))) :
    PSs (cxOf CX0 P w K mg base n_raised "raised" (defScope s_raised) f cdv A outer s H E).nox (defBody s_raised) (t_raised K T) :=
  (pss_cons (ps_set (i := 2) sc_raised.nd rfl (.inl rfl) (pe_tup (pa_cons pe_int (pa_cons pe_int pa_nil))))
  (pss_cons (ps_for PassesOwn.never rfl (pi_range1 (by rfl) F.b_range (pa_cons (pv 1) pa_nil)) (pg_name (i := 3) sc_raised.nd rfl (.inl rfl))
   (pss_one (ps_set (i := 2) sc_raised.nd rfl (.inl rfl) (pe_cal C_times hr (by rfl) (pa_cons (pv 2) (pa_cons (pv 0) pa_nil))))))
  (pss_one (ps_ret (pv 2)))))
theorem pure_raised (vs : List V) (H : Hp) (Q : VK) (E : XK) (h : sp_raised K T vs H Q E) : t_raised K T { nx := fun _ H' => Q .non H', rt := Q } (start n_raised vs) H := by
  obtain ⟨S, v, u, p, n, dom, rfl, ha, hb, ⟨n1, n2, p1, p2, p3, p4⟩, q⟩ := h
  have s0 : Sg T (hd S H) S H := ⟨dom, .same⟩
  refine q_asg s0 (x := ((1 : Int), (1 : Int))) (ev_tup2 ev_int ev_int) fun w H1 e1 r1 => ?_
  refine s_forR1 (s0.go e1) (ev_var rfl hb) (by omega) (by omega) (fun i σ' H' => ∃ w o, σ' = [some v, some u, some w, o] ∧ Le T H H' ∧ Rep (hd S H') w (mRaisedN p i)) (fun H2 e2 => ⟨w, none, rfl, e1.trans e2, r1.le (e2.hd (s0.go e1).dom)⟩) ?_ ?_
  · rintro i σ' H' hi ⟨w', o, rfl, e', r'⟩
    obtain ⟨d1, d2⟩ := raised_den p1 p2 i (by omega)
    have d3 := p64 i (by omega)
    refine s_asg (s0.go e').up (ev_call2 (ev_var rfl r') (ev_var rfl (ha.le (e'.hd dom))) ⟨⟨d1, Int.le_trans d2 d3, p1, by unfold B30; omega⟩, p3, p4⟩) fun w2 H2 e2 r2 => ?_
    exact ⟨w2, some (.int (i : Int)), rfl, e'.trans e2, r2⟩
  · rintro σ' H' ⟨w', o, rfl, e', r'⟩
    exact s_ret (s0.go e').up (ev_var rfl r') fun y H2 e2 r2 => q _ _ (e'.trans e2) r2
theorem cal_raised {k : Nat} (D : At K mg "raised" s_raised) (F : Fx mg) (C_times : Cal P w K mg base k "times" ["one", "other"] (sp_times K T)) : Cal P w K mg base (k + 1) "raised" ["one", "many"] (sp_raised K T) :=
  mk_cal D sc_raised (fun _ _ _ _ _ _ us hl => match us, hl with | [_, _], _ => rfl) (Pu2.len rfl) (fun f cdv A outer s H E hr => der_raised F C_times hr) (fun vs H Q E h => pure_raised vs H Q E h)
def sp_weight_of (K : PySem.W.Frag) (T : List (Addr × Str)) : Sp := Pu1 T (fun m : Meas => m.items.length ≤ 1000) mWeight
abbrev n_weight_of : List Str := ["told", "one", "weight"]
theorem sc_weight_of : FnScope n_weight_of ["told"] (defScope s_weight_of) := ⟨rfl, rfl, rfl, by decide +kernel, rfl, by decide +kernel, by decide +kernel⟩
def t_weight_of (K : PySem.W.Frag) (T : List (Addr × Str)) : TS := (tRet (tCB (rSum K) (tCons (tLc (iTup K (tVar 0)) (gTup K 2 (gCons (gName 1) (gCons (gName 2) gNil))) tYes (tVar 2) [1, 2]) tNil)))
theorem der_weight_of {k : Nat} {f : Addr} {cdv : Value} {A : Around} {outer : List Env} {s : Shared} {H : Hp} {E : XK} (F : Fx mg) (hr : Room k (A.deeper (envOfC "weight_of" (defScope s_weight_of) s.heap.objs.size f cdv))) :
    PSs (cxOf CX0 P w K mg base n_weight_of "weight_of" (defScope s_weight_of) f cdv A outer s H E).nox (defBody s_weight_of) (t_weight_of K T) :=
  (pss_one (ps_ret (pe_callB (cr_sum rfl) (by rfl) F.b_sum (by decide +kernel) (pa_cons (pe_lc (own := [("one", 1), ("weight", 2)]) (g := (gTup K 2 (gCons (gName 1) (gCons (gName 2) gNil)))) (tt := tYes) rfl sc_weight_of.nd (pi_tup (pv 0)) (blkOk_by (own := [("one", 1), ("weight", 2)]) (N := n_weight_of) (sc := defScope s_weight_of) (by decide +kernel)) (fun _ _ _ _ _ => (pg_tup rfl (pgs_cons (pg_name (i := 1) sc_weight_of.nd rfl (.inl rfl)) (pgs_cons (pg_name (i := 2) sc_weight_of.nd rfl (.inl rfl)) pgs_nil)))) (fun _ _ _ _ _ => pts_nil) (fun _ _ _ _ _ => (pv 2))) pa_nil))))
theorem pure_weight_of (vs : List V) (H : Hp) (Q : VK) (E : XK) (h : sp_weight_of K T vs H Q E) : t_weight_of K T { nx := fun _ H' => Q .non H', rt := Q } (start n_weight_of vs) H := by
  obtain ⟨S, v, m, dom, rfl, ha, hl, q⟩ := h
  have s0 : Sg T (hd S H) S H := ⟨dom, .same⟩
  refine s_ret s0 (ev_sum (xs := m.items.map fun e : Tup Int × Int => e.2) (en_map (fun e : Tup Int × Int => e.2) (sr_tup (ev_var rfl ha)) tgm_pair (by omega) fun x hx v' S' H' s r => g_pair r fun vx vy rx ry => ⟨rfl, rfl, ev_var rfl ry⟩).r) q
theorem cal_weight_of {k : Nat} (D : At K mg "weight_of" s_weight_of) (F : Fx mg) : Cal P w K mg base (k + 1) "weight_of" ["told"] (sp_weight_of K T) :=
  mk_cal D sc_weight_of (fun _ _ _ _ _ _ us hl => match us, hl with | [_], _ => rfl) (Pu1.len rfl) (fun f cdv A outer s H E hr => der_weight_of F hr) (fun vs H Q E h => pure_weight_of vs H Q E h)
def sp_law_whole (K : PySem.W.Frag) (T : List (Addr × Str)) : Sp := Pu1 T (fun m : Meas => m.items.length ≤ 1000) mWeight
abbrev n_law_whole : List Str := ["_law_told", "_law_one", "_law_weight"]
theorem sc_law_whole : FnScope n_law_whole ["_law_told"] (defScope s_law_whole) := ⟨rfl, rfl, rfl, by decide +kernel, rfl, by decide +kernel, by decide +kernel⟩
def t_law_whole (K : PySem.W.Frag) (T : List (Addr × Str)) : TS := (tRet (tCB (rSum K) (tCons (tLc (iTup K (tVar 0)) (gTup K 2 (gCons (gName 1) (gCons (gName 2) gNil))) tYes (tVar 2) [1, 2]) tNil)))
theorem der_law_whole {k : Nat} {f : Addr} {cdv : Value} {A : Around} {outer : List Env} {s : Shared} {H : Hp} {E : XK} (F : Fx mg) (hr : Room k (A.deeper (envOfC "_law_whole" (defScope s_law_whole) s.heap.objs.size f cdv))) :
    PSs (cxOf CX0 P w K mg base n_law_whole "_law_whole" (defScope s_law_whole) f cdv A outer s H E).nox (defBody s_law_whole) (t_law_whole K T) :=
  (pss_one (ps_ret (pe_callB (cr_sum rfl) (by rfl) F.b_sum (by decide +kernel) (pa_cons (pe_lc (own := [("_law_one", 1), ("_law_weight", 2)]) (g := (gTup K 2 (gCons (gName 1) (gCons (gName 2) gNil)))) (tt := tYes) rfl sc_law_whole.nd (pi_tup (pv 0)) (blkOk_by (own := [("_law_one", 1), ("_law_weight", 2)]) (N := n_law_whole) (sc := defScope s_law_whole) (by decide +kernel)) (fun _ _ _ _ _ => (pg_tup rfl (pgs_cons (pg_name (i := 1) sc_law_whole.nd rfl (.inl rfl)) (pgs_cons (pg_name (i := 2) sc_law_whole.nd rfl (.inl rfl)) pgs_nil)))) (fun _ _ _ _ _ => pts_nil) (fun _ _ _ _ _ => (pv 2))) pa_nil))))
theorem pure_law_whole (vs : List V) (H : Hp) (Q : VK) (E : XK) (h : sp_law_whole K T vs H Q E) : t_law_whole K T { nx := fun _ H' => Q .non H', rt := Q } (start n_law_whole vs) H := by
  obtain ⟨S, v, m, dom, rfl, ha, hl, q⟩ := h
  have s0 : Sg T (hd S H) S H := ⟨dom, .same⟩
  refine s_ret s0 (ev_sum (xs := m.items.map fun e : Tup Int × Int => e.2) (en_map (fun e : Tup Int × Int => e.2) (sr_tup (ev_var rfl ha)) tgm_pair (by omega) fun x hx v' S' H' s r => g_pair r fun vx vy rx ry => ⟨rfl, rfl, ev_var rfl ry⟩).r) q
theorem cal_law_whole {k : Nat} (D : At K mg "_law_whole" s_law_whole) (F : Fx mg) : Cal P w K mg base (k + 1) "_law_whole" ["_law_told"] (sp_law_whole K T) :=
  mk_cal D sc_law_whole (fun _ _ _ _ _ _ us hl => match us, hl with | [_], _ => rfl) (Pu1.len rfl) (fun f cdv A outer s H E hr => der_law_whole F hr) (fun vs H Q E h => pure_law_whole vs H Q E h)
def sp_law_common (K : PySem.W.Frag) (T : List (Addr × Str)) : Sp := Pu2 T (fun _ b => -4611686018427387904 < b ∧ b < 4611686018427387904) mGcd
abbrev n_law_common : List Str := ["_law_one", "_law_other"]
theorem sc_law_common : FnScope n_law_common ["_law_one", "_law_other"] (defScope s_law_common) := ⟨rfl, rfl, rfl, by decide +kernel, rfl, by decide +kernel, by decide +kernel⟩
def t_law_common (K : PySem.W.Frag) (T : List (Addr × Str)) : TS := (tSeq (tPar 0 1 (tCons (tCB rAbs (tCons (tVar 0) tNil)) (tCons (tCB rAbs (tCons (tVar 1) tNil)) tNil)))
  (tSeq (tWhile (tTest (tOp (rNeQ Int) (tVar 1) (tC (.int 0)))) (tPar 0 1 (tCons (tVar 1) (tCons (tOp (rI0 fun i j => .int (i - j)) (tVar 0) (tOp (rI CMul fun i j => .int (i * j)) (tVar 1) (tOp (rI CDivW fun i j => .int (i / j)) (tVar 0) (tVar 1)))) tNil))))
  (tRet (tVar 0))))
theorem der_law_common {k : Nat} {f : Addr} {cdv : Value} {A : Around} {outer : List Env} {s : Shared} {H : Hp} {E : XK} (F : Fx mg) (hr : Room k (A.deeper (envOfC "_law_common" (defScope s_law_common) s.heap.objs.size f cdv))) :
    PSs (cxOf CX0 P w K mg base n_law_common "_law_common" (defScope s_law_common) f cdv A outer s H E).nox (defBody s_law_common) (t_law_common K T) :=
  (pss_cons (ps_par (i := 0) (j := 1) rfl sc_law_common.nd rfl rfl (by decide) rfl rfl (pa_cons (pe_callB call_abs (by rfl) F.b_abs (by decide +kernel) (pa_cons (pv 0) pa_nil)) (pa_cons (pe_callB call_abs (by rfl) F.b_abs (by decide +kernel) (pa_cons (pv 1) pa_nil)) pa_nil)) (by rfl))
  (pss_cons (ps_while PassesOwn.never (pt_cmpR (op_neQ hr.units) (pv 1) pe_int (nomark _)) (pss_one (ps_par (i := 0) (j := 1) rfl sc_law_common.nd rfl rfl (by decide) rfl rfl (pa_cons (pv 1) (pa_cons (pe_op op_sub (pv 0) (pe_op op_mul (pv 1) (pe_op op_fdivW (pv 0) (pv 1)))) pa_nil)) (by rfl))))
  (pss_one (ps_ret (pv 0)))))
theorem pure_law_common (vs : List V) (H : Hp) (Q : VK) (E : XK) (h : sp_law_common K T vs H Q E) : t_law_common K T { nx := fun _ H' => Q .non H', rt := Q } (start n_law_common vs) H := by
  obtain ⟨S, v, u, a, b, dom, rfl, ha, hb, ⟨b1, b2⟩, q⟩ := h
  have s0 : Sg T (hd S H) S H := ⟨dom, .same⟩
  refine q_par s0 (ev_abs (ev_var rfl ha)) (ev_abs (ev_var rfl hb)) fun v1 u1 H2 e12 r1 r2 => ?_
  obtain rfl := of_int r1
  obtain rfl := of_int r2
  refine ⟨fun m σ H' => ∃ x y : Int, 0 ≤ x ∧ 0 ≤ y ∧ y < 4611686018427387904 ∧ m = y.toNat ∧ σ = [some (.int x), some (.int y)] ∧ Int.gcd x y = Int.gcd a b ∧ Le T H H', ⟨_, _, _, ?_, ?_, ?_, rfl, rfl, ?_, e12⟩, fun m σ H' hw => ?_⟩
  · split <;> omega
  · split <;> omega
  · split <;> omega
  · have h1 : ∀ z : Int, (if z < 0 then -z else z) = (z.natAbs : Int) := fun z => by split <;> omega
    rw [h1, h1]
    simp [Int.gcd]
  obtain ⟨x, y, hx, hy, hy2, rfl, rfl, hg, e'⟩ := hw
  refine ev_ne (x := y) (y := 0) (ev_var rfl rep_int) ev_int S H' (s0.go e') _ fun v2 H3 e3 r3 => ?_
  obtain rfl := of_bl r3
  refine ⟨_, rfl, ite2 (fun e => ?_) (fun e => ?_)⟩
  · have hpos : 0 < y := by
      have := of_decide_eq_true e
      omega
    refine ⟨fun σ' H'' => ∃ x' y' : Int, 0 ≤ x' ∧ 0 ≤ y' ∧ y' < y ∧ σ' = [some (.int x'), some (.int y')] ∧ Int.gcd x' y' = Int.gcd a b ∧ Le T H H'', fun σ' H'' hn => ?_, ?_⟩
    · obtain ⟨x', y', h1, h2, h3, h4, h5, h6⟩ := hn
      exact ⟨y'.toNat, by omega, x', y', h1, h2, by omega, rfl, h4, h5, h6⟩
    · have X : EvR T (tVar 0) [some (V.int x), some (V.int y)] (hd S H3) x := ev_var rfl rep_int
      have Y : EvR T (tVar 1) [some (V.int x), some (V.int y)] (hd S H3) y := ev_var rfl rep_int
      refine s_par (γ := Int) (s0.go (e'.trans e3)).up Y (ev_opI0 X (ev_opI Y (ev_opI X Y (cdiv hpos hy2)) (.inl ⟨by omega, by omega⟩))) fun v4 v5 H5 e5 r4 r5 => ?_
      obtain rfl := of_int r4
      obtain rfl := of_int r5
      refine ⟨y, x - y * (x / y), hy, ?_, ?_, rfl, ?_, ((e'.trans e3).trans e5)⟩
      · have := Int.emod_nonneg x (show y ≠ 0 by omega)
        have := Int.emod_def x y
        omega
      · have := Int.emod_lt_of_pos x hpos
        have := Int.emod_def x y
        omega
      · rw [← Int.emod_def, gcd_step hx hpos, hg]
  · have h0 : y = 0 := by
      have : ¬ (y ≠ 0) := fun z => e (decide_eq_true z)
      omega
    subst h0
    refine ⟨.int x, rfl, q _ _ (e'.trans e3) ?_⟩
    unfold mGcd
    rw [← hg, Int.gcd_zero]
    have : ((x.natAbs : Nat) : Int) = x := by omega
    rw [this]
    exact rep_int
theorem cal_law_common {k : Nat} (D : At K mg "_law_common" s_law_common) (F : Fx mg) : Cal P w K mg base (k + 1) "_law_common" ["_law_one", "_law_other"] (sp_law_common K T) :=
  mk_cal D sc_law_common (fun _ _ _ _ _ _ us hl => match us, hl with | [_, _], _ => rfl) (Pu2.len rfl) (fun f cdv A outer s H E hr => der_law_common F hr) (fun vs H Q E h => pure_law_common vs H Q E h)
def sp_law_share (K : PySem.W.Frag) (T : List (Addr × Str)) : Sp := Pu2 T (fun a b => 0 < b ∧ b < 4611686018427387904) mFr
abbrev n_law_share : List Str := ["_law_above", "_law_low", "_law_shared"]
theorem sc_law_share : FnScope n_law_share ["_law_above", "_law_low"] (defScope s_law_share) := ⟨rfl, rfl, rfl, by decide +kernel, rfl, by decide +kernel, by decide +kernel⟩
def t_law_share (K : PySem.W.Frag) (T : List (Addr × Str)) : TS := (tSeq (tAsg (tCall (sp_law_common K T) [] E0 (tCons (tVar 0) (tCons (tVar 1) tNil))) (gName 2))
  (tRet (tTup (tCons (tOp (rI CDivW fun i j => .int (i / j)) (tVar 0) (tVar 2)) (tCons (tOp (rI CDivW fun i j => .int (i / j)) (tVar 1) (tVar 2)) tNil)))))
theorem der_law_share {k : Nat} {f : Addr} {cdv : Value} {A : Around} {outer : List Env} {s : Shared} {H : Hp} {E : XK} (F : Fx mg) (C_law_common : Cal P w K mg base k "_law_common" ["_law_one", "_law_other"] (sp_law_common K T)) (hr : Room k (A.deeper (envOfC "_law_share" (defScope s_law_share) s.heap.objs.size f cdv))) :
    PSs (cxOf CX0 P w K mg base n_law_share "_law_share" (defScope s_law_share) f cdv A outer s H E).nox (defBody s_law_share) (t_law_share K T) :=
  (pss_cons (ps_set (i := 2) sc_law_share.nd rfl (.inl rfl) (pe_cal C_law_common hr (by rfl) (pa_cons (pv 0) (pa_cons (pv 1) pa_nil))))
  (pss_one (ps_ret (pe_tup (pa_cons (pe_op op_fdivW (pv 0) (pv 2)) (pa_cons (pe_op op_fdivW (pv 1) (pv 2)) pa_nil))))))
theorem pure_law_share (vs : List V) (H : Hp) (Q : VK) (E : XK) (h : sp_law_share K T vs H Q E) : t_law_share K T { nx := fun _ H' => Q .non H', rt := Q } (start n_law_share vs) H := by
  obtain ⟨S, v, u, a, b, dom, rfl, ha, hb, ⟨pa, pb⟩, q⟩ := h
  have s0 : Sg T (hd S H) S H := ⟨dom, .same⟩
  have hg := mGcd_pos (a := a) pa
  have hl := mGcd_le (a := a) pa
  refine q_asg s0 (ev_call2 (ev_var rfl ha) (ev_var rfl hb) ⟨by omega, by omega⟩) fun x H1 l1 r1 => ?_
  refine s_ret (s0.go l1).up (ev_tup2 (ev_opI (ev_var rfl (ha.le (l1.hd dom))) (ev_var rfl r1) (cdiv hg (by omega))) (ev_opI (ev_var rfl (hb.le (l1.hd dom))) (ev_var rfl r1) (cdiv hg (by omega)))) fun y H2 l2 r2 => q _ _ (l1.trans l2) r2
theorem cal_law_share {k : Nat} (D : At K mg "_law_share" s_law_share) (F : Fx mg) (C_law_common : Cal P w K mg base k "_law_common" ["_law_one", "_law_other"] (sp_law_common K T)) : Cal P w K mg base (k + 1) "_law_share" ["_law_above", "_law_low"] (sp_law_share K T) :=
  mk_cal D sc_law_share (fun _ _ _ _ _ _ us hl => match us, hl with | [_, _], _ => rfl) (Pu2.len rfl) (fun f cdv A outer s H E hr => der_law_share F C_law_common hr) (fun vs H Q E h => pure_law_share vs H Q E h)
def sp_law_plus (K : PySem.W.Frag) (T : List (Addr × Str)) : Sp := Pu2 T okP mPlus
abbrev n_law_plus : List Str := ["_law_one", "_law_other"]
theorem sc_law_plus : FnScope n_law_plus ["_law_one", "_law_other"] (defScope s_law_plus) := ⟨rfl, rfl, rfl, by decide +kernel, rfl, by decide +kernel, by decide +kernel⟩
def t_law_plus (K : PySem.W.Frag) (T : List (Addr × Str)) : TS := (tRet (tCall (sp_law_share K T) [] E0 (tCons (tOp (rI0 fun i j => .int (i + j)) (tOp (rI CMul fun i j => .int (i * j)) (tOp (rIxT K) (tVar 0) (tC (.int 0))) (tOp (rIxT K) (tVar 1) (tC (.int 1)))) (tOp (rI CMul fun i j => .int (i * j)) (tOp (rIxT K) (tVar 1) (tC (.int 0))) (tOp (rIxT K) (tVar 0) (tC (.int 1))))) (tCons (tOp (rI CMul fun i j => .int (i * j)) (tOp (rIxT K) (tVar 0) (tC (.int 1))) (tOp (rIxT K) (tVar 1) (tC (.int 1)))) tNil))))
theorem der_law_plus {k : Nat} {f : Addr} {cdv : Value} {A : Around} {outer : List Env} {s : Shared} {H : Hp} {E : XK} (F : Fx mg) (C_law_share : Cal P w K mg base k "_law_share" ["_law_above", "_law_low"] (sp_law_share K T)) (hr : Room k (A.deeper (envOfC "_law_plus" (defScope s_law_plus) s.heap.objs.size f cdv))) :
    PSs (cxOf CX0 P w K mg base n_law_plus "_law_plus" (defScope s_law_plus) f cdv A outer s H E).nox (defBody s_law_plus) (t_law_plus K T) :=
  (pss_one (ps_ret (pe_cal C_law_share hr (by rfl) (pa_cons (pe_op op_add (pe_op op_mul (pe_ix ix_tup (pv 0) pe_int (fun _ _ => rfl)) (pe_ix ix_tup (pv 1) pe_int (fun _ _ => rfl))) (pe_op op_mul (pe_ix ix_tup (pv 1) pe_int (fun _ _ => rfl)) (pe_ix ix_tup (pv 0) pe_int (fun _ _ => rfl)))) (pa_cons (pe_op op_mul (pe_ix ix_tup (pv 0) pe_int (fun _ _ => rfl)) (pe_ix ix_tup (pv 1) pe_int (fun _ _ => rfl))) pa_nil)))))
theorem pure_law_plus (vs : List V) (H : Hp) (Q : VK) (E : XK) (h : sp_law_plus K T vs H Q E) : t_law_plus K T { nx := fun _ H' => Q .non H', rt := Q } (start n_law_plus vs) H := by
  obtain ⟨S, v, u, p, q0, dom, rfl, ha, hb, ⟨p1, p2, p3, p4⟩, q⟩ := h
  have s0 : Sg T (hd S H) S H := ⟨dom, .same⟩
  have A : EvR T (tVar 0) (start n_law_plus [v, u]) (hd S H) p := ev_var rfl ha
  have B : EvR T (tVar 1) (start n_law_plus [v, u]) (hd S H) q0 := ev_var rfl hb
  exact s_ret s0 (ev_call2 (ev_opI0 (ev_opI (ev_fst A) (ev_snd B) (cmulR (by unfold B30; omega) p4)) (ev_opI (ev_fst B) (ev_snd A) (cmulR (by unfold B30; omega) p2))) (ev_opI (ev_snd A) (ev_snd B) (cmulR (by unfold B30; omega) p4)) (mulB p1 p2 p3 p4)) q
theorem cal_law_plus {k : Nat} (D : At K mg "_law_plus" s_law_plus) (F : Fx mg) (C_law_share : Cal P w K mg base k "_law_share" ["_law_above", "_law_low"] (sp_law_share K T)) : Cal P w K mg base (k + 1) "_law_plus" ["_law_one", "_law_other"] (sp_law_plus K T) :=
  mk_cal D sc_law_plus (fun _ _ _ _ _ _ us hl => match us, hl with | [_, _], _ => rfl) (Pu2.len rfl) (fun f cdv A outer s H E hr => der_law_plus F C_law_share hr) (fun vs H Q E h => pure_law_plus vs H Q E h)
def sp_law_times (K : PySem.W.Frag) (T : List (Addr × Str)) : Sp := Pu2 T (fun p q => okP p q ∧ -B30 ≤ q.1 ∧ q.1 ≤ B30) mTimes
abbrev n_law_times : List Str := ["_law_one", "_law_other"]
theorem sc_law_times : FnScope n_law_times ["_law_one", "_law_other"] (defScope s_law_times) := ⟨rfl, rfl, rfl, by decide +kernel, rfl, by decide +kernel, by decide +kernel⟩
def t_law_times (K : PySem.W.Frag) (T : List (Addr × Str)) : TS := (tRet (tCall (sp_law_share K T) [] E0 (tCons (tOp (rI CMul fun i j => .int (i * j)) (tOp (rIxT K) (tVar 0) (tC (.int 0))) (tOp (rIxT K) (tVar 1) (tC (.int 0)))) (tCons (tOp (rI CMul fun i j => .int (i * j)) (tOp (rIxT K) (tVar 0) (tC (.int 1))) (tOp (rIxT K) (tVar 1) (tC (.int 1)))) tNil))))
theorem der_law_times {k : Nat} {f : Addr} {cdv : Value} {A : Around} {outer : List Env} {s : Shared} {H : Hp} {E : XK} (F : Fx mg) (C_law_share : Cal P w K mg base k "_law_share" ["_law_above", "_law_low"] (sp_law_share K T)) (hr : Room k (A.deeper (envOfC "_law_times" (defScope s_law_times) s.heap.objs.size f cdv))) :
    PSs (cxOf CX0 P w K mg base n_law_times "_law_times" (defScope s_law_times) f cdv A outer s H E).nox (defBody s_law_times) (t_law_times K T) :=
  (pss_one (ps_ret (pe_cal C_law_share hr (by rfl) (pa_cons (pe_op op_mul (pe_ix ix_tup (pv 0) pe_int (fun _ _ => rfl)) (pe_ix ix_tup (pv 1) pe_int (fun _ _ => rfl))) (pa_cons (pe_op op_mul (pe_ix ix_tup (pv 0) pe_int (fun _ _ => rfl)) (pe_ix ix_tup (pv 1) pe_int (fun _ _ => rfl))) pa_nil)))))
theorem pure_law_times (vs : List V) (H : Hp) (Q : VK) (E : XK) (h : sp_law_times K T vs H Q E) : t_law_times K T { nx := fun _ H' => Q .non H', rt := Q } (start n_law_times vs) H := by
  obtain ⟨S, v, u, p, q0, dom, rfl, ha, hb, ⟨⟨p1, p2, p3, p4⟩, p5, p6⟩, q⟩ := h
  have s0 : Sg T (hd S H) S H := ⟨dom, .same⟩
  have A : EvR T (tVar 0) (start n_law_times [v, u]) (hd S H) p := ev_var rfl ha
  have B : EvR T (tVar 1) (start n_law_times [v, u]) (hd S H) q0 := ev_var rfl hb
  exact s_ret s0 (ev_call2 (ev_opI (ev_fst A) (ev_fst B) (cmulR p5 p6)) (ev_opI (ev_snd A) (ev_snd B) (cmulR (by unfold B30; omega) p4)) (mulB p1 p2 p3 p4)) q
theorem cal_law_times {k : Nat} (D : At K mg "_law_times" s_law_times) (F : Fx mg) (C_law_share : Cal P w K mg base k "_law_share" ["_law_above", "_law_low"] (sp_law_share K T)) : Cal P w K mg base (k + 1) "_law_times" ["_law_one", "_law_other"] (sp_law_times K T) :=
  mk_cal D sc_law_times (fun _ _ _ _ _ _ us hl => match us, hl with | [_, _], _ => rfl) (Pu2.len rfl) (fun f cdv A outer s H E hr => der_law_times F C_law_share hr) (fun vs H Q E h => pure_law_times vs H Q E h)
end K4
end
section
set_option Elab.async false
set_option linter.all false
set_option maxRecDepth 100000
set_option maxHeartbeats 4000000
namespace K4
open PySem PySem.Spec PyProof.Rows L2 PySem.W
variable {P : Program} {w : World} {K : PySem.W.Frag} {mg : Str → Option Value} {base : Heap} {T : List (Addr × Str)}

def sp_is_int (K : PySem.W.Frag) (T : List (Addr × Str)) : Sp := Pu1 T (fun _ : Int => True) fun _ => true
abbrev n_is_int : List Str := ["value"]
theorem sc_is_int : FnScope n_is_int ["value"] (defScope s_is_int) := ⟨rfl, rfl, rfl, by decide +kernel, rfl, by decide +kernel, by decide +kernel⟩
def t_is_int (K : PySem.W.Frag) (T : List (Addr × Str)) : TS := (tRet (tAndV (tCB (rIsi K) (tCons (tVar 0) (tCons (tC (.ty "int")) tNil))) (tNotV (tCB (rIsi K) (tCons (tVar 0) (tCons (tC (.ty "bool")) tNil))))))
theorem der_is_int {k : Nat} {f : Addr} {cdv : Value} {A : Around} {outer : List Env} {s : Shared} {H : Hp} {E : XK} (F : Fx mg) (hr : Room k (A.deeper (envOfC "is_int" (defScope s_is_int) s.heap.objs.size f cdv))) :
    PSs (cxOf CX0 P w K mg base n_is_int "is_int" (defScope s_is_int) f cdv A outer s H E).nox (defBody s_is_int) (t_is_int K T) :=
  (pss_one (ps_ret (pe_and (pe_callB call_isi (by rfl) F.b_isinstance (by decide +kernel) (pa_cons (pv 0) (pa_cons (pe_bltn (v := .ty "int") (by rfl) F.b_int (by decide +kernel) rfl) pa_nil))) (pe_one (pe_not (pe_callB call_isi (by rfl) F.b_isinstance (by decide +kernel) (pa_cons (pv 0) (pa_cons (pe_bltn (v := .ty "bool") (by rfl) F.b_bool (by decide +kernel) rfl) pa_nil))))))))
theorem pure_is_int (vs : List V) (H : Hp) (Q : VK) (E : XK) (h : sp_is_int K T vs H Q E) : t_is_int K T { nx := fun _ H' => Q .non H', rt := Q } (start n_is_int vs) H := by
  obtain ⟨S, v, a, dom, rfl, ha, _, q⟩ := h
  have s0 : Sg T (hd S H) S H := ⟨dom, .same⟩
  exact s_ret s0 (ev_andV (ev_isi true (ev_var rfl ha) (by decide +kernel)) fun _ => ev_notV (ev_isi false (ev_var rfl ha) (by decide +kernel))) q
theorem cal_is_int {k : Nat} (D : At K mg "is_int" s_is_int) (F : Fx mg) : Cal P w K mg base (k + 1) "is_int" ["value"] (sp_is_int K T) :=
  mk_cal D sc_is_int (fun _ _ _ _ _ _ us hl => match us, hl with | [_], _ => rfl) (Pu1.len rfl) (fun f cdv A outer s H E hr => der_is_int F hr) (fun vs H Q E h => pure_is_int vs H Q E h)
def mIsIn (v a b : Int) : Bool := decide (a ≤ v) && decide (v ≤ b)
def sp_is_in (K : PySem.W.Frag) (T : List (Addr × Str)) : Sp := Pu3 T (fun _ _ _ : Int => True) mIsIn
abbrev n_is_in : List Str := ["value", "least", "most"]
theorem sc_is_in : FnScope n_is_in ["value", "least", "most"] (defScope s_is_in) := ⟨rfl, rfl, rfl, by decide +kernel, rfl, by decide +kernel, by decide +kernel⟩
def t_is_in (K : PySem.W.Frag) (T : List (Addr × Str)) : TS := (tRet (tAndV (tCall (sp_is_int K T) [] E0 (tCons (tVar 0) tNil)) (tChain (rI0 fun i j => .bl (decide (i ≤ j))) (rI0 fun i j => .bl (decide (i ≤ j))) (tVar 1) (tVar 0) (tVar 2))))
theorem der_is_in {k : Nat} {f : Addr} {cdv : Value} {A : Around} {outer : List Env} {s : Shared} {H : Hp} {E : XK} (F : Fx mg) (C_is_int : Cal P w K mg base k "is_int" ["value"] (sp_is_int K T)) (hr : Room k (A.deeper (envOfC "is_in" (defScope s_is_in) s.heap.objs.size f cdv))) :
    PSs (cxOf CX0 P w K mg base n_is_in "is_in" (defScope s_is_in) f cdv A outer s H E).nox (defBody s_is_in) (t_is_in K T) :=
  (pss_one (ps_ret (pe_and (pe_cal C_is_int hr (by rfl) (pa_cons (pv 0) pa_nil)) (pe_one (pe_chain op_le op_le (pv 1) (pv 0) (pv 2))))))
theorem pure_is_in (vs : List V) (H : Hp) (Q : VK) (E : XK) (h : sp_is_in K T vs H Q E) : t_is_in K T { nx := fun _ H' => Q .non H', rt := Q } (start n_is_in vs) H := by
  obtain ⟨S, v, u, w, x, a, b, dom, rfl, hx, ha, hb, _, q⟩ := h
  have s0 : Sg T (hd S H) S H := ⟨dom, .same⟩
  exact s_ret s0 (ev_andV (ev_call1 (ev_var rfl hx) trivial) fun _ => ev_chain (ev_var rfl ha) (ev_var rfl hx) (ev_var rfl hb)) q
theorem cal_is_in {k : Nat} (D : At K mg "is_in" s_is_in) (F : Fx mg) (C_is_int : Cal P w K mg base k "is_int" ["value"] (sp_is_int K T)) : Cal P w K mg base (k + 1) "is_in" ["value", "least", "most"] (sp_is_in K T) :=
  mk_cal D sc_is_in (fun _ _ _ _ _ _ us hl => match us, hl with | [_, _, _], _ => rfl) (Pu3.len rfl) (fun f cdv A outer s H E hr => der_is_in F C_is_int hr) (fun vs H Q E h => pure_is_in vs H Q E h)
def sp_need_number (K : PySem.W.Frag) (T : List (Addr × Str)) : Sp := Pu3 T (fun x a b : Int => a ≤ x ∧ x ≤ b) fun _ _ _ => ()
abbrev n_need_number : List Str := ["value", "least", "most"]
theorem sc_need_number : FnScope n_need_number ["value", "least", "most"] (defScope s_need_number) := ⟨rfl, rfl, rfl, by decide +kernel, rfl, by decide +kernel, by decide +kernel⟩
def t_need_number (K : PySem.W.Frag) (T : List (Addr × Str)) : TS := (tIfS (tNot (tB (tCall (sp_is_in K T) [] E0 (tCons (tVar 0) (tCons (tVar 1) (tCons (tVar 2) tNil)))))) tNever tNext)
theorem der_need_number {k : Nat} {f : Addr} {cdv : Value} {A : Around} {outer : List Env} {s : Shared} {H : Hp} {E : XK} (F : Fx mg) (C_is_in : Cal P w K mg base k "is_in" ["value", "least", "most"] (sp_is_in K T)) (hr : Room k (A.deeper (envOfC "need_number" (defScope s_need_number) s.heap.objs.size f cdv))) :
    PSs (cxOf CX0 P w K mg base n_need_number "need_number" (defScope s_need_number) f cdv A outer s H E).nox (defBody s_need_number) (t_need_number K T) :=
  (pss_one (ps_if (pt_not (pt_val (pe_cal C_is_in hr (by rfl) (pa_cons (pv 0) (pa_cons (pv 1) (pa_cons (pv 2) pa_nil)))))) (pss_one ps_never) pss_nil))
theorem pure_need_number (vs : List V) (H : Hp) (Q : VK) (E : XK) (h : sp_need_number K T vs H Q E) : t_need_number K T { nx := fun _ H' => Q .non H', rt := Q } (start n_need_number vs) H := by
  obtain ⟨S, v, u, w, x, a, b, dom, rfl, hx, ha, hb, ⟨p1, p2⟩, q⟩ := h
  have s0 : Sg T (hd S H) S H := ⟨dom, .same⟩
  refine s_skip s0 (et_is (et_not (et_B (ev_call3 (ev_var rfl hx) (ev_var rfl ha) (ev_var rfl hb) trivial))) (by simp [mIsIn, p1, p2])) fun H1 e => q _ _ e rep_non
theorem cal_need_number {k : Nat} (D : At K mg "need_number" s_need_number) (F : Fx mg) (C_is_in : Cal P w K mg base k "is_in" ["value", "least", "most"] (sp_is_in K T)) : Cal P w K mg base (k + 1) "need_number" ["value", "least", "most"] (sp_need_number K T) :=
  mk_cal D sc_need_number (fun _ _ _ _ _ _ us hl => match us, hl with | [_, _, _], _ => rfl) (Pu3.len rfl) (fun f cdv A outer s H E hr => der_need_number F C_is_in hr) (fun vs H Q E h => pure_need_number vs H Q E h)
def sp_need_board (K : PySem.W.Frag) (T : List (Addr × Str)) : Sp := Pu2 T (fun r c : Int => 1 ≤ r ∧ r ≤ 12 ∧ 1 ≤ c ∧ c ≤ 12) fun _ _ => ()
abbrev n_need_board : List Str := ["rows", "columns"]
theorem sc_need_board : FnScope n_need_board ["rows", "columns"] (defScope s_need_board) := ⟨rfl, rfl, rfl, by decide +kernel, rfl, by decide +kernel, by decide +kernel⟩
def t_need_board (K : PySem.W.Frag) (T : List (Addr × Str)) : TS := (tSeq (tDrop (tCall (sp_need_number K T) [] E0 (tCons (tVar 0) (tCons (tC (.int 1)) (tCons (tC (.int 12)) tNil)))))
  (tDrop (tCall (sp_need_number K T) [] E0 (tCons (tVar 1) (tCons (tC (.int 1)) (tCons (tC (.int 12)) tNil))))))
theorem der_need_board {k : Nat} {f : Addr} {cdv : Value} {A : Around} {outer : List Env} {s : Shared} {H : Hp} {E : XK} (F : Fx mg) (C_need_number : Cal P w K mg base k "need_number" ["value", "least", "most"] (sp_need_number K T)) (hr : Room k (A.deeper (envOfC "need_board" (defScope s_need_board) s.heap.objs.size f cdv))) :
    PSs (cxOf CX0 P w K mg base n_need_board "need_board" (defScope s_need_board) f cdv A outer s H E).nox (defBody s_need_board) (t_need_board K T) :=
  (pss_cons (ps_expr (pe_cal C_need_number hr (by rfl) (pa_cons (pv 0) (pa_cons pe_int (pa_cons (C8.pe_gc (by rfl) F.c_MOST_SIDE) pa_nil)))))
  (pss_one (ps_expr (pe_cal C_need_number hr (by rfl) (pa_cons (pv 1) (pa_cons pe_int (pa_cons (C8.pe_gc (by rfl) F.c_MOST_SIDE) pa_nil)))))))
theorem pure_need_board (vs : List V) (H : Hp) (Q : VK) (E : XK) (h : sp_need_board K T vs H Q E) : t_need_board K T { nx := fun _ H' => Q .non H', rt := Q } (start n_need_board vs) H := by
  obtain ⟨S, v, u, r, c, dom, rfl, hr, hc, ⟨p1, p2, p3, p4⟩, q⟩ := h
  have s0 : Sg T (hd S H) S H := ⟨dom, .same⟩
  refine q_drop s0 (ev_call3 (ev_var rfl hr) ev_int ev_int ⟨p1, p2⟩) fun H1 e1 => ?_
  exact s_drop (s0.go e1) (ev_call3 (ev_var rfl hc) ev_int ev_int ⟨p3, p4⟩) fun H2 e2 => q _ _ (e1.trans e2) rep_non
theorem cal_need_board {k : Nat} (D : At K mg "need_board" s_need_board) (F : Fx mg) (C_need_number : Cal P w K mg base k "need_number" ["value", "least", "most"] (sp_need_number K T)) : Cal P w K mg base (k + 1) "need_board" ["rows", "columns"] (sp_need_board K T) :=
  mk_cal D sc_need_board (fun _ _ _ _ _ _ us hl => match us, hl with | [_, _], _ => rfl) (Pu2.len rfl) (fun f cdv A outer s H E hr => der_need_board F C_need_number hr) (fun vs H Q E h => pure_need_board vs H Q E h)
def mStrokes (r c : Int) (l : List Int) : Bool := (l.map fun x => mIsIn x 0 (r + c - 1)).all id
def sp_are_strokes (K : PySem.W.Frag) (T : List (Addr × Str)) : Sp := Pu3 T (fun (_ _ : Int) (l : List Int) => l.length ≤ 1000) mStrokes
abbrev n_are_strokes : List Str := ["rows", "columns", "value", "line"]
theorem sc_are_strokes : FnScope n_are_strokes ["rows", "columns", "value"] (defScope s_are_strokes) := ⟨rfl, rfl, rfl, by decide +kernel, rfl, by decide +kernel, by decide +kernel⟩
def t_are_strokes (K : PySem.W.Frag) (T : List (Addr × Str)) : TS := (tRet (tAndV (tCB (rIsi K) (tCons (tVar 2) (tCons (tC (.ty "list")) tNil))) (tCB (rAll K) (tCons (tLc (iList K (tVar 2)) (gName 3) tYes (tCall (sp_is_in K T) [] E0 (tCons (tVar 3) (tCons (tC (.int 0)) (tCons (tOp (rI0 fun i j => .int (i - j)) (tOp (rI0 fun i j => .int (i + j)) (tVar 0) (tVar 1)) (tC (.int 1))) tNil)))) [3]) tNil))))
theorem der_are_strokes {k : Nat} {f : Addr} {cdv : Value} {A : Around} {outer : List Env} {s : Shared} {H : Hp} {E : XK} (F : Fx mg) (C_is_in : Cal P w K mg base k "is_in" ["value", "least", "most"] (sp_is_in K T)) (hr : Room k (A.deeper (envOfC "are_strokes" (defScope s_are_strokes) s.heap.objs.size f cdv))) :
    PSs (cxOf CX0 P w K mg base n_are_strokes "are_strokes" (defScope s_are_strokes) f cdv A outer s H E).nox (defBody s_are_strokes) (t_are_strokes K T) :=
  (pss_one (ps_ret (pe_and (pe_callB call_isi (by rfl) F.b_isinstance (by decide +kernel) (pa_cons (pv 2) (pa_cons (pe_bltn (v := .ty "list") (by rfl) F.b_list (by decide +kernel) rfl) pa_nil))) (pe_one (pe_callB (cr_all rfl) (by rfl) F.b_all (by decide +kernel) (pa_cons (pe_lc (own := [("line", 3)]) (g := (gName 3)) (tt := tYes) rfl sc_are_strokes.nd (pi_list (pv 2)) (blkOk_by (own := [("line", 3)]) (N := n_are_strokes) (sc := defScope s_are_strokes) (by decide +kernel)) (fun _ _ _ _ _ => (pg_name (i := 3) sc_are_strokes.nd rfl (.inl rfl))) (fun _ _ _ _ _ => pts_nil) (fun _ _ _ _ _ => (pe_cal C_is_in hr (by rfl) (pa_cons (pv 3) (pa_cons pe_int (pa_cons (pe_op op_sub (pe_op op_add (pv 0) (pv 1)) pe_int) pa_nil)))))) pa_nil))))))
theorem pure_are_strokes (vs : List V) (H : Hp) (Q : VK) (E : XK) (h : sp_are_strokes K T vs H Q E) : t_are_strokes K T { nx := fun _ H' => Q .non H', rt := Q } (start n_are_strokes vs) H := by
  obtain ⟨S, v, u, w, r, c, l, dom, rfl, hr, hc, hl, p, q⟩ := h
  have s0 : Sg T (hd S H) S H := ⟨dom, .same⟩
  refine s_ret s0 (ev_andV (ev_isi true (ev_var rfl hl) (by decide +kernel)) fun _ => ev_all (en_map (fun x => mIsIn x 0 (r + c - 1)) (sr_list (ev_var rfl hl)) tgm_name (by omega) fun x hx v' S' H' s rx => ⟨rfl, rfl, ?_⟩).r) q
  exact ev_call3 (ev_var rfl rx) ev_int (ev_opI0 (ev_opI0 (ev_var rfl (hr.le s.le)) (ev_var rfl (hc.le s.le))) ev_int) trivial
theorem cal_are_strokes {k : Nat} (D : At K mg "are_strokes" s_are_strokes) (F : Fx mg) (C_is_in : Cal P w K mg base k "is_in" ["value", "least", "most"] (sp_is_in K T)) : Cal P w K mg base (k + 1) "are_strokes" ["rows", "columns", "value"] (sp_are_strokes K T) :=
  mk_cal D sc_are_strokes (fun _ _ _ _ _ _ us hl => match us, hl with | [_, _, _], _ => rfl) (Pu3.len rfl) (fun f cdv A outer s H E hr => der_are_strokes F C_is_in hr) (fun vs H Q E h => pure_are_strokes vs H Q E h)
def sp_need_strokes (K : PySem.W.Frag) (T : List (Addr × Str)) : Sp := Pu3 T (fun (r c : Int) (l : List Int) => l.length ≤ 1000 ∧ mStrokes r c l = true) fun _ _ _ => ()
abbrev n_need_strokes : List Str := ["rows", "columns", "value"]
theorem sc_need_strokes : FnScope n_need_strokes ["rows", "columns", "value"] (defScope s_need_strokes) := ⟨rfl, rfl, rfl, by decide +kernel, rfl, by decide +kernel, by decide +kernel⟩
def t_need_strokes (K : PySem.W.Frag) (T : List (Addr × Str)) : TS := (tIfS (tNot (tB (tCall (sp_are_strokes K T) [] E0 (tCons (tVar 0) (tCons (tVar 1) (tCons (tVar 2) tNil)))))) tNever tNext)
theorem der_need_strokes {k : Nat} {f : Addr} {cdv : Value} {A : Around} {outer : List Env} {s : Shared} {H : Hp} {E : XK} (F : Fx mg) (C_are_strokes : Cal P w K mg base k "are_strokes" ["rows", "columns", "value"] (sp_are_strokes K T)) (hr : Room k (A.deeper (envOfC "need_strokes" (defScope s_need_strokes) s.heap.objs.size f cdv))) :
    PSs (cxOf CX0 P w K mg base n_need_strokes "need_strokes" (defScope s_need_strokes) f cdv A outer s H E).nox (defBody s_need_strokes) (t_need_strokes K T) :=
  (pss_one (ps_if (pt_not (pt_val (pe_cal C_are_strokes hr (by rfl) (pa_cons (pv 0) (pa_cons (pv 1) (pa_cons (pv 2) pa_nil)))))) (pss_one ps_never) pss_nil))
theorem pure_need_strokes (vs : List V) (H : Hp) (Q : VK) (E : XK) (h : sp_need_strokes K T vs H Q E) : t_need_strokes K T { nx := fun _ H' => Q .non H', rt := Q } (start n_need_strokes vs) H := by
  obtain ⟨S, v, u, w, r, c, l, dom, rfl, hr, hc, hl, ⟨p1, p2⟩, q⟩ := h
  have s0 : Sg T (hd S H) S H := ⟨dom, .same⟩
  refine s_skip s0 (et_is (et_not (et_B (ev_call3 (ev_var rfl hr) (ev_var rfl hc) (ev_var rfl hl) p1))) (by simp [p2])) fun H1 e => q _ _ e rep_non
theorem cal_need_strokes {k : Nat} (D : At K mg "need_strokes" s_need_strokes) (F : Fx mg) (C_are_strokes : Cal P w K mg base k "are_strokes" ["rows", "columns", "value"] (sp_are_strokes K T)) : Cal P w K mg base (k + 1) "need_strokes" ["rows", "columns", "value"] (sp_need_strokes K T) :=
  mk_cal D sc_need_strokes (fun _ _ _ _ _ _ us hl => match us, hl with | [_, _, _], _ => rfl) (Pu3.len rfl) (fun f cdv A outer s H E hr => der_need_strokes F C_are_strokes hr) (fun vs H Q E h => pure_need_strokes vs H Q E h)
def sp_chosen (K : PySem.W.Frag) (T : List (Addr × Str)) : Sp := Pu2 T (fun n k : Int => 0 ≤ n ∧ n ≤ 12 ∧ 0 ≤ k ∧ k ≤ 12) mChosen
abbrev n_chosen : List Str := ["many", "some", "found", "turn"]
theorem sc_chosen : FnScope n_chosen ["many", "some"] (defScope s_chosen) := ⟨rfl, rfl, rfl, by decide +kernel, rfl, by decide +kernel, by decide +kernel⟩
def t_chosen (K : PySem.W.Frag) (T : List (Addr × Str)) : TS := (tSeq (tAsg (tC (.int 1)) (gName 2))
  (tSeq (tFor (iRng1 (tCons (tVar 1) tNil)) (gName 3)
   (tAsg (tOp (rI CDivW fun i j => .int (i / j)) (tOp (rI CMul fun i j => .int (i * j)) (tVar 2) (tOp (rI0 fun i j => .int (i - j)) (tVar 0) (tVar 3))) (tOp (rI0 fun i j => .int (i + j)) (tVar 3) (tC (.int 1)))) (gName 2)))
  (tRet (tVar 2))))
theorem der_chosen {k : Nat} {f : Addr} {cdv : Value} {A : Around} {outer : List Env} {s : Shared} {H : Hp} {E : XK} (F : Fx mg) (hr : Room k (A.deeper (envOfC "chosen" (defScope s_chosen) s.heap.objs.size f cdv))) :
    PSs (cxOf CX0 P w K mg base n_chosen "chosen" (defScope s_chosen) f cdv A outer s H E).nox (defBody s_chosen) (t_chosen K T) :=
  (pss_cons (ps_set (i := 2) sc_chosen.nd rfl (.inl rfl) pe_int)
  (pss_cons (ps_for PassesOwn.never rfl (pi_range1 (by rfl) F.b_range (pa_cons (pv 1) pa_nil)) (pg_name (i := 3) sc_chosen.nd rfl (.inl rfl))
   (pss_one (ps_set (i := 2) sc_chosen.nd rfl (.inl rfl) (pe_op op_fdivW (pe_op op_mul (pv 2) (pe_op op_sub (pv 0) (pv 3))) (pe_op op_add (pv 3) pe_int)))))
  (pss_one (ps_ret (pv 2)))))
theorem pure_chosen (vs : List V) (H : Hp) (Q : VK) (E : XK) (h : sp_chosen K T vs H Q E) : t_chosen K T { nx := fun _ H' => Q .non H', rt := Q } (start n_chosen vs) H := by
  obtain ⟨S, v, u, n, k, dom, rfl, hn, hk, ⟨p1, p2, p3, p4⟩, q⟩ := h
  have s0 : Sg T (hd S H) S H := ⟨dom, .same⟩
  refine q_asg s0 ev_int fun w H1 e1 r1 => ?_
  refine s_forR1 (s0.go e1) (ev_var rfl hk) (by omega) (by omega) (fun i σ' H' => ∃ w o, σ' = [some v, some u, some w, o] ∧ Le T H H' ∧ Rep (hd S H') w (mChosenN n i)) (fun H2 e2 => ⟨w, none, rfl, e1.trans e2, r1.le (e2.hd (s0.go e1).dom)⟩) ?_ ?_
  · rintro i σ' H' hi ⟨w', o, rfl, e', r'⟩
    have I : EvR T (tVar 3) [some v, some u, some w', some (V.int (i : Int))] (hd S H') (i : Int) := ev_var rfl rep_int
    refine s_asg (s0.go e').up (ev_opI (ev_opI (ev_var rfl r') (ev_opI0 (ev_var rfl (hn.le (e'.hd dom))) I) (.inr ⟨by omega, by omega⟩)) (ev_opI0 I ev_int) (cdiv (by omega) (by omega))) fun w2 H2 e2 r2 => ?_
    exact ⟨w2, some (.int (i : Int)), rfl, e'.trans e2, r2⟩
  · rintro σ' H' ⟨w', o, rfl, e', r'⟩
    exact s_ret (s0.go e').up (ev_var rfl r') fun y H2 e2 r2 => q _ _ (e'.trans e2) r2
theorem cal_chosen {k : Nat} (D : At K mg "chosen" s_chosen) (F : Fx mg) : Cal P w K mg base (k + 1) "chosen" ["many", "some"] (sp_chosen K T) :=
  mk_cal D sc_chosen (fun _ _ _ _ _ _ us hl => match us, hl with | [_, _], _ => rfl) (Pu2.len rfl) (fun f cdv A outer s H E hr => der_chosen F hr) (fun vs H Q E h => pure_chosen vs H Q E h)
def mPow2 (n : Int) : Int := 1 * 2 ^ n.toNat
def sp_power_of_two (K : PySem.W.Frag) (T : List (Addr × Str)) : Sp := Pu1 T (fun n : Int => 0 ≤ n ∧ n ≤ 200) mPow2
abbrev n_power_of_two : List Str := ["many"]
theorem sc_power_of_two : FnScope n_power_of_two ["many"] (defScope s_power_of_two) := ⟨rfl, rfl, rfl, by decide +kernel, rfl, by decide +kernel, by decide +kernel⟩
def t_power_of_two (K : PySem.W.Frag) (T : List (Addr × Str)) : TS := (tRet (tOp (rI CPow fun i j => .int (i * 2 ^ j.toNat)) (tC (.int 1)) (tVar 0)))
theorem der_power_of_two {k : Nat} {f : Addr} {cdv : Value} {A : Around} {outer : List Env} {s : Shared} {H : Hp} {E : XK} (F : Fx mg) (hr : Room k (A.deeper (envOfC "power_of_two" (defScope s_power_of_two) s.heap.objs.size f cdv))) :
    PSs (cxOf CX0 P w K mg base n_power_of_two "power_of_two" (defScope s_power_of_two) f cdv A outer s H E).nox (defBody s_power_of_two) (t_power_of_two K T) :=
  (pss_one (ps_ret (pe_op op_shl pe_int (pv 0))))
theorem pure_power_of_two (vs : List V) (H : Hp) (Q : VK) (E : XK) (h : sp_power_of_two K T vs H Q E) : t_power_of_two K T { nx := fun _ H' => Q .non H', rt := Q } (start n_power_of_two vs) H := by
  obtain ⟨S, v, n, dom, rfl, hn, ⟨p1, p2⟩, q⟩ := h
  have s0 : Sg T (hd S H) S H := ⟨dom, .same⟩
  exact s_ret s0 (ev_opI (g := fun i j => i * 2 ^ j.toNat) (ev_int (i := 1)) (ev_var rfl hn) ⟨p1, by omega, by decide⟩) q
theorem cal_power_of_two {k : Nat} (D : At K mg "power_of_two" s_power_of_two) (F : Fx mg) : Cal P w K mg base (k + 1) "power_of_two" ["many"] (sp_power_of_two K T) :=
  mk_cal D sc_power_of_two (fun _ _ _ _ _ _ us hl => match us, hl with | [_], _ => rfl) (Pu1.len rfl) (fun f cdv A outer s H E hr => der_power_of_two F hr) (fun vs H Q E h => pure_power_of_two vs H Q E h)
def sp_support_of (K : PySem.W.Frag) (T : List (Addr × Str)) : Sp := Pu3s T (fun (r c : Int) xs => 0 ≤ r ∧ r ≤ 12 ∧ 0 ≤ c ∧ c ≤ 12 ∧ xs.length ≤ 60) mSupport
abbrev n_support_of : List Str := ["rows", "columns", "lines", "some", "high", "line"]
theorem sc_support_of : FnScope n_support_of ["rows", "columns", "lines"] (defScope s_support_of) := ⟨rfl, rfl, rfl, by decide +kernel, rfl, by decide +kernel, by decide +kernel⟩
def t_support_of (K : PySem.W.Frag) (T : List (Addr × Str)) : TS := (tSeq (tAsg (tCB rSortDI (tCons (tDc (iSeq K (tVar 2)) (gName 5) tYes (tVar 5) (tC (.bl true)) [5]) tNil)) (gName 3))
  (tSeq (tAsg (tCB (rLenS K) (tCons (tLc (iList K (tVar 3)) (gName 5) (tTest (tOp (rI0 fun i j => .bl (decide (i < j))) (tVar 5) (tVar 0))) (tC (.int 1)) [5]) tNil)) (gName 4))
  (tSeq (tIfS (tOr (tTest (tOp (rEqQ Int) (tVar 4) (tVar 0))) (tTest (tOp (rEqQ Int) (tOp (rI0 fun i j => .int (i - j)) (tCB (rLenS K) (tCons (tVar 3) tNil)) (tVar 4)) (tVar 1)))) (tRet (tTupRg (tRg1 (tOp (rI0 fun i j => .int (i + j)) (tVar 0) (tVar 1))))) tNext)
  (tRet (tThen (tVar 3) (kTup K))))))
theorem der_support_of {k : Nat} {f : Addr} {cdv : Value} {A : Around} {outer : List Env} {s : Shared} {H : Hp} {E : XK} (F : Fx mg) (hr : Room k (A.deeper (envOfC "support_of" (defScope s_support_of) s.heap.objs.size f cdv))) :
    PSs (cxOf CX0 P w K mg base n_support_of "support_of" (defScope s_support_of) f cdv A outer s H E).nox (defBody s_support_of) (t_support_of K T) :=
  (pss_cons (ps_set (i := 3) sc_support_of.nd rfl (.inl rfl) (pe_callB (call_sortedDI rfl) (by rfl) F.b_sorted (by decide +kernel) (pa_cons (pe_dc (own := [("line", 5)]) (g := (gName 5)) (tt := tYes) rfl sc_support_of.nd (pi_seq (pv 2)) (blkOk_by (own := [("line", 5)]) (N := n_support_of) (sc := defScope s_support_of) (by decide +kernel)) (fun _ _ _ _ _ => (pg_name (i := 5) sc_support_of.nd rfl (.inl rfl))) (fun _ _ _ _ _ => pts_nil) (fun _ _ _ _ _ => (pv 5)) (fun _ _ _ _ _ => pe_bl)) pa_nil)))
  (pss_cons (ps_set (i := 4) sc_support_of.nd rfl (.inl rfl) (pe_callB call_len_seq (by rfl) F.b_len (by decide +kernel) (pa_cons (pe_lc (own := [("line", 5)]) (g := (gName 5)) (tt := (tTest (tOp (rI0 fun i j => .bl (decide (i < j))) (tVar 5) (tVar 0)))) rfl sc_support_of.nd (pi_list (pv 3)) (blkOk_by (own := [("line", 5)]) (N := n_support_of) (sc := defScope s_support_of) (by decide +kernel)) (fun _ _ _ _ _ => (pg_name (i := 5) sc_support_of.nd rfl (.inl rfl))) (fun _ _ _ _ _ => (pts_one (pt_cmpR (op_lt) (pv 5) (pv 0) (nomark _)))) (fun _ _ _ _ _ => pe_int)) pa_nil)))
  (pss_cons (ps_if (PW.pt (pw_or (pt_cmpR (op_eqQ hr.units) (pv 4) (pv 0) (nomark _)) (pw_or1 (pt_cmpR (op_eqQ hr.units) (pe_op op_sub (pe_callB call_len_seq (by rfl) F.b_len (by decide +kernel) (pa_cons (pv 3) pa_nil)) (pv 4)) (pv 1) (nomark _))))) (pss_one (ps_ret (pe_tupRg rfl (by rfl) F.b_tuple (prg_1 (by rfl) F.b_range (pe_op op_add (pv 0) (pv 1)))))) pss_nil)
  (pss_one (ps_ret (pe_tupleOf (by rfl) F.b_tuple (pv 3)))))))
theorem pure_support_of (vs : List V) (H : Hp) (Q : VK) (E : XK) (h : sp_support_of K T vs H Q E) : t_support_of K T { nx := fun _ H' => Q .non H', rt := Q } (start n_support_of vs) H := by
  obtain ⟨S, v, u, w, r, c, xs, dom, rfl, hr, hc, hx, ⟨p1, p2, p3, p4, p5⟩, q⟩ := h
  have s0 : Sg T (hd S H) S H := ⟨dom, .same⟩
  have hk := keysD_len xs
  have hul := usort_len xs
  have E1 : EvO T (tDc (iSeq K (tVar 2)) (gName 5) tYes (tVar 5) (tC (.bl true)) [5]) (start n_support_of [v, u, w]) (hd S H) (.dK ((keysD xs).map kI)) :=
    eo_dcI (f := fun x => x) (w := fun _ => true) (sr_seq rfl hx) tgm_name (by omega) fun x _ v' S' H' s rx => ⟨rfl, rfl, et_yes, ev_var rfl rx, ev_bl⟩
  have E2 := en_sortDI E1 (by omega)
  rw [isort_keysD] at E2
  refine q_asg s0 E2.r fun v3 H1 e1 r1 => ?_
  have s1 := s0.go e1
  have E3 : EvR T (tCB (rLenS K) (tCons (tLc (iList K (tVar 3)) (gName 5) (tTest (tOp (rI0 fun i j => .bl (decide (i < j))) (tVar 5) (tVar 0))) (tC (.int 1)) [5]) tNil)) [some v, some u, some w, some v3, none, none] (hd S H1) (highs r (usort xs)) := by
    exact ev_is (ev_lenL (en_lc (fun x => decide (x < r)) (fun _ => (1 : Int)) (sr_list (ev_var rfl r1)) tgm_name (by omega) fun x hx v' S' H' s rx => ⟨rfl, rfl, et_test (ev_cmp (ev_var rfl rx) (ev_var rfl ((hr.le (e1.hd dom)).le s.le))), fun _ => ev_int⟩).r) (by rw [List.length_map] <;> rfl)
  refine q_asg s1.up E3 fun v4 H2 e2 r2 => ?_
  have s2 := s1.go e2
  have e12 := e1.trans e2
  have r1' := r1.le (e2.hd s1.dom)
  have C : EvT T (tOr (tTest (tOp (rEqQ Int) (tVar 4) (tVar 0))) (tTest (tOp (rEqQ Int) (tOp (rI0 fun i j => .int (i - j)) (tCB (rLenS K) (tCons (tVar 3) tNil)) (tVar 4)) (tVar 1)))) [some v, some u, some w, some v3, some v4, none] (hd S H2) (decide (highs r (usort xs) = r) || decide (((usort xs).length : Int) - highs r (usort xs) = c)) :=
    et_or (et_test (ev_eq (ev_var rfl r2) (ev_var rfl (hr.le (e12.hd dom))))) fun _ => et_test (ev_eq (ev_opI0 (ev_lenL (ev_var rfl r1')) (ev_var rfl r2)) (ev_var rfl (hc.le (e12.hd dom))))
  refine q_if1 s2.up C (fun hb H3 e3 => ?_) fun hb H3 e3 => ?_
  · refine s_ret (s2.go e3).up (ev_tupRg1 (ev_opI0 (ev_var rfl (hr.le ((e12.trans e3).hd dom))) (ev_var rfl (hc.le ((e12.trans e3).hd dom)))) (by omega) (by omega)) fun y H4 e4 r4 => q _ _ ((e12.trans e3).trans e4) ?_
    have : mSupport r c xs = Tup.mk (rng 0 (r + c).toNat) := if_pos (by simpa using hb)
    rw [this]
    exact r4
  · refine s_ret (s2.go e3).up (ev_tupL (ev_var rfl (r1'.le (e3.hd s2.dom)))) fun y H4 e4 r4 => q _ _ ((e12.trans e3).trans e4) ?_
    have : mSupport r c xs = Tup.mk (usort xs) := if_neg (by simpa using hb)
    rw [this]
    exact r4
theorem cal_support_of {k : Nat} (D : At K mg "support_of" s_support_of) (F : Fx mg) : Cal P w K mg base (k + 1) "support_of" ["rows", "columns", "lines"] (sp_support_of K T) :=
  mk_cal D sc_support_of (fun _ _ _ _ _ _ us hl => match us, hl with | [_, _, _], _ => rfl) (Pu3s.len rfl) (fun f cdv A outer s H E hr => der_support_of F hr) (fun vs H Q E h => pure_support_of vs H Q E h)
def sp_law_support (K : PySem.W.Frag) (T : List (Addr × Str)) : Sp := Pu3s T (fun (r c : Int) xs => 0 ≤ r ∧ r ≤ 12 ∧ 0 ≤ c ∧ c ≤ 12 ∧ xs.length ≤ 60) mSupport
abbrev n_law_support : List Str := ["_law_high", "_law_wide", "_law_lines", "_law_some", "_law_rows", "_law_line"]
theorem sc_law_support : FnScope n_law_support ["_law_high", "_law_wide", "_law_lines"] (defScope s_law_support) := ⟨rfl, rfl, rfl, by decide +kernel, rfl, by decide +kernel, by decide +kernel⟩
def t_law_support (w : World) (K : PySem.W.Frag) (T : List (Addr × Str)) : TS := (tSeq (tAsg (tCB (rSortedSet w) (tCons (tCB (rSetI w K) (tCons (tVar 2) tNil)) tNil)) (gName 3))
  (tSeq (tAsg (tCB (rLenS K) (tCons (tLc (iList K (tVar 3)) (gName 5) (tTest (tOp (rI0 fun i j => .bl (decide (i < j))) (tVar 5) (tVar 0))) (tVar 5) [5]) tNil)) (gName 4))
  (tRet (tIf (tOr (tTest (tOp (rEqQ Int) (tVar 4) (tVar 0))) (tTest (tOp (rEqQ Int) (tOp (rI0 fun i j => .int (i - j)) (tCB (rLenS K) (tCons (tVar 3) tNil)) (tVar 4)) (tVar 1)))) (tTupRg (tRg1 (tOp (rI0 fun i j => .int (i + j)) (tVar 0) (tVar 1)))) (tThen (tVar 3) (kTup K))))))
theorem der_law_support {k : Nat} {f : Addr} {cdv : Value} {A : Around} {outer : List Env} {s : Shared} {H : Hp} {E : XK} (F : Fx mg) (hr : Room k (A.deeper (envOfC "_law_support" (defScope s_law_support) s.heap.objs.size f cdv))) :
    PSs (cxOf CX0 P w K mg base n_law_support "_law_support" (defScope s_law_support) f cdv A outer s H E).nox (defBody s_law_support) (t_law_support w K T) :=
  (pss_cons (ps_set (i := 3) sc_law_support.nd rfl (.inl rfl) (pe_callB (cr_sortedSet rfl) (by rfl) F.b_sorted (by decide +kernel) (pa_cons (pe_callTy (cr_setI rfl) (by rfl) F.b_set (by decide +kernel) (pa_cons (pv 2) pa_nil)) pa_nil)))
  (pss_cons (ps_set (i := 4) sc_law_support.nd rfl (.inl rfl) (pe_callB call_len_seq (by rfl) F.b_len (by decide +kernel) (pa_cons (pe_lc (own := [("_law_line", 5)]) (g := (gName 5)) (tt := (tTest (tOp (rI0 fun i j => .bl (decide (i < j))) (tVar 5) (tVar 0)))) rfl sc_law_support.nd (pi_list (pv 3)) (blkOk_by (own := [("_law_line", 5)]) (N := n_law_support) (sc := defScope s_law_support) (by decide +kernel)) (fun _ _ _ _ _ => (pg_name (i := 5) sc_law_support.nd rfl (.inl rfl))) (fun _ _ _ _ _ => (pts_one (pt_cmpR (op_lt) (pv 5) (pv 0) (nomark _)))) (fun _ _ _ _ _ => (pv 5))) pa_nil)))
  (pss_one (ps_ret (pe_ifExp (PW.pt (pw_or (pt_cmpR (op_eqQ hr.units) (pv 4) (pv 0) (nomark _)) (pw_or1 (pt_cmpR (op_eqQ hr.units) (pe_op op_sub (pe_callB call_len_seq (by rfl) F.b_len (by decide +kernel) (pa_cons (pv 3) pa_nil)) (pv 4)) (pv 1) (nomark _))))) (pe_tupRg rfl (by rfl) F.b_tuple (prg_1 (by rfl) F.b_range (pe_op op_add (pv 0) (pv 1)))) (pe_tupleOf (by rfl) F.b_tuple (pv 3)))))))
theorem pure_law_support (vs : List V) (H : Hp) (Q : VK) (E : XK) (h : sp_law_support K T vs H Q E) : t_law_support w K T { nx := fun _ H' => Q .non H', rt := Q } (start n_law_support vs) H := by
  obtain ⟨S, v, u, w', r, c, xs, dom, rfl, hr, hc, hx, ⟨p1, p2, p3, p4, p5⟩, q⟩ := h
  have s0 : Sg T (hd S H) S H := ⟨dom, .same⟩
  have hul := usort_len xs
  refine q_asg s0 (en_sortSetS (a := 2) rfl hx p5).r fun v3 H1 e1 r1 => ?_
  have s1 := s0.go e1
  have E3 : EvR T (tCB (rLenS K) (tCons (tLc (iList K (tVar 3)) (gName 5) (tTest (tOp (rI0 fun i j => .bl (decide (i < j))) (tVar 5) (tVar 0))) (tVar 5) [5]) tNil)) [some v, some u, some w', some v3, none, none] (hd S H1) (highs r (usort xs)) := by
    exact ev_is (ev_lenL (en_lc (fun x => decide (x < r)) (fun x => x) (sr_list (ev_var rfl r1)) tgm_name (by omega) fun x hx v' S' H' s rx => ⟨rfl, rfl, et_test (ev_cmp (ev_var rfl rx) (ev_var rfl ((hr.le (e1.hd dom)).le s.le))), fun _ => ev_var rfl rx⟩).r) (by rw [List.length_map] <;> rfl)
  refine q_asg s1.up E3 fun v4 H2 e2 r2 => ?_
  have s2 := s1.go e2
  have e12 := e1.trans e2
  have r1' := r1.le (e2.hd s1.dom)
  have C : EvT T (tOr (tTest (tOp (rEqQ Int) (tVar 4) (tVar 0))) (tTest (tOp (rEqQ Int) (tOp (rI0 fun i j => .int (i - j)) (tCB (rLenS K) (tCons (tVar 3) tNil)) (tVar 4)) (tVar 1)))) [some v, some u, some w', some v3, some v4, none] (hd S H2) (decide (highs r (usort xs) = r) || decide (((usort xs).length : Int) - highs r (usort xs) = c)) :=
    et_or (et_test (ev_eq (ev_var rfl r2) (ev_var rfl (hr.le (e12.hd dom))))) fun _ => et_test (ev_eq (ev_opI0 (ev_lenL (ev_var rfl r1')) (ev_var rfl r2)) (ev_var rfl (hc.le (e12.hd dom))))
  refine s_ret s2.up (ev_if (x := mSupport r c xs) C (fun hb => ?_) fun hb => ?_) fun y H4 e4 r4 => q _ _ (e12.trans e4) r4
  · have : mSupport r c xs = Tup.mk (rng 0 (r + c).toNat) := if_pos (by simpa using hb)
    rw [this]
    exact ev_tupRg1 (ev_opI0 (ev_var rfl (hr.le (e12.hd dom))) (ev_var rfl (hc.le (e12.hd dom)))) (by omega) (by omega)
  · have : mSupport r c xs = Tup.mk (usort xs) := if_neg (by simpa using hb)
    rw [this]
    exact ev_tupL (ev_var rfl r1')
theorem cal_law_support {k : Nat} (D : At K mg "_law_support" s_law_support) (F : Fx mg) : Cal P w K mg base (k + 1) "_law_support" ["_law_high", "_law_wide", "_law_lines"] (sp_law_support K T) :=
  mk_cal D sc_law_support (fun _ _ _ _ _ _ us hl => match us, hl with | [_, _, _], _ => rfl) (Pu3s.len rfl) (fun f cdv A outer s H E hr => der_law_support F hr) (fun vs H Q E h => pure_law_support vs H Q E h)
def sp_subsets (K : PySem.W.Frag) (T : List (Addr × Str)) : Sp := Pu1 T (fun xs : List Int => xs.length ≤ 12) mSubsets
abbrev n_subsets : List Str := ["some", "found", "one", "told"]
theorem sc_subsets : FnScope n_subsets ["some"] (defScope s_subsets) := ⟨rfl, rfl, rfl, by decide +kernel, rfl, by decide +kernel, by decide +kernel⟩
def t_subsets (K : PySem.W.Frag) (T : List (Addr × Str)) : TS := (tSeq (tAsg (tLst (tCons (tLst tNil) tNil)) (gName 1))
  (tSeq (tFor (iList K (tVar 0)) (gName 2)
   (tAsg (tOp rCat (tVar 1) (tLc (iList K (tVar 1)) (gName 3) tYes (tLst (StX.tStar K (tVar 3) (tCons (tVar 2) tNil))) [3])) (gName 1)))
  (tRet (tSl (rSlL K) (tVar 1) tNoPart (tPart (tUn (rU fun i => .int (-i)) (tC (.int 1))))))))
theorem der_subsets {k : Nat} {f : Addr} {cdv : Value} {A : Around} {outer : List Env} {s : Shared} {H : Hp} {E : XK} (F : Fx mg) (hr : Room k (A.deeper (envOfC "subsets" (defScope s_subsets) s.heap.objs.size f cdv))) :
    PSs (cxOf CX0 P w K mg base n_subsets "subsets" (defScope s_subsets) f cdv A outer s H E).nox (defBody s_subsets) (t_subsets K T) :=
  (pss_cons (ps_set (i := 1) sc_subsets.nd rfl (.inl rfl) (pe_lst (pa_cons (pe_lst pa_nil) pa_nil)))
  (pss_cons (ps_for PassesOwn.never rfl (pi_list (pv 0)) (pg_name (i := 2) sc_subsets.nd rfl (.inr rfl))
   (pss_one (ps_set (i := 1) sc_subsets.nd rfl (.inl rfl) (pe_op op_cat (pv 1) (pe_lc (own := [("told", 3)]) (g := (gName 3)) (tt := tYes) rfl sc_subsets.nd (pi_list (pv 1)) (blkOk_by (own := [("told", 3)]) (N := n_subsets) (sc := defScope s_subsets) (by decide +kernel)) (fun _ _ _ _ _ => (pg_name (i := 3) sc_subsets.nd rfl (.inl rfl))) (fun _ _ _ _ _ => pts_nil) (fun _ _ _ _ _ => (pe_lst (StX.pa_star (pv 3) (pa_cons (pv 2) pa_nil)))))))))
  (pss_one (ps_ret (pe_slice sl_list (pv 1) po_none (po_some (pe_un un_neg pe_int)))))))
theorem pure_subsets (vs : List V) (H : Hp) (Q : VK) (E : XK) (h : sp_subsets K T vs H Q E) : t_subsets K T { nx := fun _ H' => Q .non H', rt := Q } (start n_subsets vs) H := by
  obtain ⟨S, v, xs, dom, rfl, hx, p, q⟩ := h
  have s0 : Sg T (hd S H) S H := ⟨dom, .same⟩
  refine q_asg s0 (x := [([] : List Int)]) (en_lst (eas_cons (en_lst eas_nil (by decide)).r eas_nil) (by decide)).r fun w H1 e1 r1 => ?_
  refine s_forL (s0.go e1).up (ev_var rfl (hx.le (e1.hd dom))) (fun H2 i σ' H' => ∃ w o o2, σ' = [some v, some w, o, o2] ∧ Le T H2 H' ∧ Sg T (hd S H2) S H' ∧ Rep (hd S H') w ((xs.take i).foldl (fun found one => found ++ found.map (· ++ [one])) [[]])) (fun H2 e2 => ⟨w, none, none, rfl, .same, ⟨((s0.go e1).go e2).dom, .same⟩, r1.le (e2.hd (s0.go e1).dom)⟩) (fun H2 i σ' H' ⟨_, _, _, _, _, s', _⟩ => s') ?_ ?_
  · rintro H2 i x vx σ' H' e2 hi rx ⟨w', o, o2, rfl, e', s', r'⟩
    have hlen : ((xs.take i).foldl (fun found one => found ++ found.map (· ++ [one])) [([] : List Int)]).length ≤ 4096 := by
      rw [subsets_len, List.length_take]
      have h1 : min i xs.length ≤ 12 := by omega
      have := Nat.pow_le_pow_right (show 0 < 2 by decide) h1
      simpa using this
    have hmem : ∀ l ∈ (xs.take i).foldl (fun found one => found ++ found.map (· ++ [one])) [([] : List Int)], l.length ≤ 12 := fun l hl => by
      have := subsets_mem (xs.take i) [[]] 0 (by simp) l hl
      rw [List.length_take] at this
      omega
    have ht : (xs.take (i + 1)).foldl (fun found one => found ++ found.map (· ++ [one])) [([] : List Int)] = (xs.take i).foldl (fun found one => found ++ found.map (· ++ [one])) [[]] ++ ((xs.take i).foldl (fun found one => found ++ found.map (· ++ [one])) [[]]).map (· ++ [x]) := by
      rw [List.take_add_one, hi, List.foldl_append]
      rfl
    have W : EvR T (tVar 1) [some v, some w', some vx, o2] (hd S H') _ := ev_var rfl r'
    refine s_asg s'.up (en_cat W (en_map (· ++ [x]) (sr_list W) tgm_name (by omega) fun l hl v' S' H'' s rl => ⟨rfl, rfl, (en_lst (eas_starL (ev_var rfl rl) (eas_cons (ev_var rfl (rx.le s.le)) eas_nil)) (by
      have := hmem l hl
      simp
      omega)).r⟩).r (by rw [List.length_map]; omega)).r fun w2 H3 e3 r3 => ?_
    refine ⟨w2, some vx, o2, rfl, e'.trans e3, s'.go e3, ?_⟩
    rw [ht]
    exact r3
  · rintro H2 σ' H' e2 ⟨w', o, o2, rfl, e', s', r'⟩
    rw [List.take_length] at r'
    refine s_ret s'.up (en_slL (ev_var rfl r') ep_none (ep_some (ev_neg ev_int))).r fun y H3 e3 r3 => q _ _ (((e1.trans e2).trans e').trans e3) r3
theorem cal_subsets {k : Nat} (D : At K mg "subsets" s_subsets) (F : Fx mg) : Cal P w K mg base (k + 1) "subsets" ["some"] (sp_subsets K T) :=
  mk_cal D sc_subsets (fun _ _ _ _ _ _ us hl => match us, hl with | [_], _ => rfl) (Pu1.len rfl) (fun f cdv A outer s H E hr => der_subsets F hr) (fun vs H Q E h => pure_subsets vs H Q E h)
end K4
end
section
set_option Elab.async false
set_option linter.all false
set_option maxRecDepth 100000
set_option maxHeartbeats 4000000
namespace K4
open PySem PySem.Spec PyProof.Rows L2 PySem.W
variable {P : Program} {w : World} {K : PySem.W.Frag} {mg : Str → Option Value} {base : Heap} {T : List (Addr × Str)}

def sp_normal_of (K : PySem.W.Frag) (T : List (Addr × Str)) : Sp := Pu3 T (fun (_ _ : Int) (l : List Int) => l.length ≤ 100) mNormal
abbrev n_normal_of : List Str := ["rows", "columns", "strokes", "parts", "told", "counts", "line", "sort", "found", "some"]
theorem sc_normal_of : FnScope n_normal_of ["rows", "columns", "strokes"] (defScope s_normal_of) := ⟨rfl, rfl, rfl, by decide +kernel, rfl, by decide +kernel, by decide +kernel⟩
def t_normal_of (K : PySem.W.Frag) (T : List (Addr × Str)) : TS := (tSeq (tPar3 3 4 5 (tCons (tLst tNil) (tCons tDNewK (tCons (tLst (tCons (tC (.int 0)) (tCons (tC (.int 0)) tNil))) tNil))))
  (tSeq (tFor (iList K (tRevL K (tVar 2))) (gName 6)
   (tIfS (tAnd (tB (tDNotIn (tVar 6) (tVar 4))) (tAnd (tTest (tOp (rI0 fun i j => .bl (decide (i < j))) (tOp (rIxL K) (tVar 5) (tC (.int 0))) (tVar 0))) (tTest (tOp (rI0 fun i j => .bl (decide (i < j))) (tOp (rIxL K) (tVar 5) (tC (.int 1))) (tVar 1))))) (tSeq (sDPut (tVar 4) (tVar 6) (tC (.bl true)))
  (tSeq (tAsg (tIf (tTest (tOp (rI0 fun i j => .bl (decide (i < j))) (tVar 6) (tVar 0))) (tC (.int 0)) (tC (.int 1))) (gName 7))
  (tSeq (tAugS (tVar 5) (tVar 7) (tC (.int 1)) rGetL (ipI fun i j => i + j) rSetL)
  (tIfS (tAnd (tTest (tOp (rNeQ (List (List Int))) (tVar 3) (tLst tNil))) (tTest (tOp (rEqQ Bool) (tOp (rI0 fun i j => .bl (decide (i < j))) (tOp (rIxL K) (tOp (rIxL K) (tVar 3) (tUn (rU fun i => .int (-i)) (tC (.int 1)))) (tC (.int 0))) (tVar 0)) (tOp (rI0 fun i j => .bl (decide (i < j))) (tVar 6) (tVar 0))))) (tDrop (tBM K "list" rAppend (tOp (rIxL K) (tVar 3) (tUn (rU fun i => .int (-i)) (tC (.int 1)))) (tCons (tVar 6) tNil))) (tDrop (tBM K "list" rAppend (tVar 3) (tCons (tLst (tCons (tVar 6) tNil)) tNil))))))) tNext))
  (tSeq (tAsg (tLst tNil) (gName 8))
  (tSeq (tFor (iList K (tRevL K (tVar 3))) (gName 9)
   (tAsg (tOp rCat (tVar 8) (tCB (rSortedI K) (tCons (tVar 9) tNil))) (gName 8)))
  (tRet (tThen (tVar 8) (kTup K)))))))
theorem der_normal_of {k : Nat} {f : Addr} {cdv : Value} {A : Around} {outer : List Env} {s : Shared} {H : Hp} {E : XK} (F : Fx mg) (hr : Room k (A.deeper (envOfC "normal_of" (defScope s_normal_of) s.heap.objs.size f cdv))) :
    PSs (cxOf CX0 P w K mg base n_normal_of "normal_of" (defScope s_normal_of) f cdv A outer s H E).nox (defBody s_normal_of) (t_normal_of K T) :=
  (pss_cons (ps_par3 (i := 3) (j := 4) (l := 5) rfl sc_normal_of.nd rfl rfl rfl (by decide) (by decide) (by decide) rfl rfl rfl (pa_cons (pe_lst pa_nil) (pa_cons pe_dnewK (pa_cons (pe_lst (pa_cons pe_int (pa_cons pe_int pa_nil))) pa_nil))) (by rfl))
  (pss_cons (ps_for PassesOwn.never rfl (pi_list (pe_revL (pv 2))) (pg_name (i := 6) sc_normal_of.nd rfl (.inl rfl))
   (pss_one (ps_if (PW.pt (pw_and (pt_cmp (pc_dnotin (hu1 hr) (pv 6) (pv 4)) (by rfl)) (pw_and (pt_cmpR (op_lt) (pe_ix ix_list (pv 5) pe_int (fun _ _ => rfl)) (pv 0) (nomark _)) (pw_and1 (pt_cmpR (op_lt) (pe_ix ix_list (pv 5) pe_int (fun _ _ => rfl)) (pv 1) (nomark _)))))) (pss_cons (ps_dput (hu1 hr) (pv 4) (pv 6) pe_bl rfl)
  (pss_cons (ps_set (i := 7) sc_normal_of.nd rfl (.inl rfl) (pe_ifExp (pt_cmpR (op_lt) (pv 6) (pv 0) (nomark _)) pe_int pe_int))
  (pss_cons (ps_augS (pv 5) (pv 7) get_list pe_int ip_add set_list)
  (pss_one (ps_if (PW.pt (pw_and (pt_cmpR (op_neQ hr.units) (pv 3) (pe_lst pa_nil) (nomark _)) (pw_and1 (pt_cmpR (op_eqQ hr.units) (pe_cmpR (op_lt) (pe_ix ix_list (pe_ix ix_list (pv 3) (pe_un un_neg pe_int) (fun _ _ => rfl)) pe_int (fun _ _ => rfl)) (pv 0) (nomark _)) (pe_cmpR (op_lt) (pv 6) (pv 0) (nomark _)) (nomark _))))) (pss_one (ps_expr (pe_bm PySem.F.plainAttrs_list PySem.F.slot_list_append PySem.F.type_list_append mt_append (pe_ix ix_list (pv 3) (pe_un un_neg pe_int) (fun _ _ => rfl)) (pa_cons (pv 6) pa_nil)))) (pss_one (ps_expr (pe_bm PySem.F.plainAttrs_list PySem.F.slot_list_append PySem.F.type_list_append mt_append (pv 3) (pa_cons (pe_lst (pa_cons (pv 6) pa_nil)) pa_nil))))))))) pss_nil)))
  (pss_cons (ps_set (i := 8) sc_normal_of.nd rfl (.inl rfl) (pe_lst pa_nil))
  (pss_cons (ps_for PassesOwn.never rfl (pi_list (pe_revL (pv 3))) (pg_name (i := 9) sc_normal_of.nd rfl (.inl rfl))
   (pss_one (ps_set (i := 8) sc_normal_of.nd rfl (.inl rfl) (pe_op op_cat (pv 8) (pe_callB cr_sortedI (by rfl) F.b_sorted (by decide +kernel) (pa_cons (pv 9) pa_nil))))))
  (pss_one (ps_ret (pe_tupleOf (by rfl) F.b_tuple (pv 8))))))))
/-- the state of the walk -/
theorem normal_step {r c : Int} {D0 : Ends} {S : List Addr} {G H0 H : Hp} {P D C : Addr} {Ls : List Addr} {st : NSt} {v u w vx o7 o8 o9 : Option V} {x : Int} (n : NS T S G H0 P D C Ls st H) (h0 : some (V.int r) = v) (h1 : some (V.int c) = u) (hx : vx = some (V.int x))
    (hne : ∀ p ∈ st.1, p ≠ []) (l1 : st.1.length ≤ 100) (l2 : st.1.flatten.length ≤ 100) (l3 : st.2.1.length ≤ 100) (k : ∀ Ls' o7 H', NS T S G H0 P D C Ls' (nstep r c st x) H' → D0.nx [v, u, w, some (.ref P), some (.ref D), some (.ref C), vx, o7, o8, o9] H') :
    (tIfS (tAnd (tB (tDNotIn (tVar 6) (tVar 4))) (tAnd (tTest (tOp (rI0 fun i j => .bl (decide (i < j))) (tOp (rIxL K) (tVar 5) (tC (.int 0))) (tVar 0))) (tTest (tOp (rI0 fun i j => .bl (decide (i < j))) (tOp (rIxL K) (tVar 5) (tC (.int 1))) (tVar 1))))) (tSeq (sDPut (tVar 4) (tVar 6) (tC (.bl true)))
  (tSeq (tAsg (tIf (tTest (tOp (rI0 fun i j => .bl (decide (i < j))) (tVar 6) (tVar 0))) (tC (.int 0)) (tC (.int 1))) (gName 7))
  (tSeq (tAugS (tVar 5) (tVar 7) (tC (.int 1)) rGetL (ipI fun i j => i + j) rSetL)
  (tIfS (tAnd (tTest (tOp (rNeQ (List (List Int))) (tVar 3) (tLst tNil))) (tTest (tOp (rEqQ Bool) (tOp (rI0 fun i j => .bl (decide (i < j))) (tOp (rIxL K) (tOp (rIxL K) (tVar 3) (tUn (rU fun i => .int (-i)) (tC (.int 1)))) (tC (.int 0))) (tVar 0)) (tOp (rI0 fun i j => .bl (decide (i < j))) (tVar 6) (tVar 0))))) (tDrop (tBM K "list" rAppend (tOp (rIxL K) (tVar 3) (tUn (rU fun i => .int (-i)) (tC (.int 1)))) (tCons (tVar 6) tNil))) (tDrop (tBM K "list" rAppend (tVar 3) (tCons (tLst (tCons (tVar 6) tNil)) tNil))))))) tNext) D0 [v, u, w, some (.ref P), some (.ref D), some (.ref C), vx, o7, o8, o9] H := by
  subst h0 h1 hx
  obtain ⟨parts, told, a, b⟩ := st
  have X : ∀ {o7 : Option V} {G : Hp}, EvR T (tVar 6) [some (V.int r), some (V.int c), w, some (.ref P), some (.ref D), some (.ref C), some (V.int x), o7, o8, o9] G x := fun {o7 G} => ev_var rfl rep_int
  have R : ∀ {o7 : Option V} {G : Hp}, EvR T (tVar 0) [some (V.int r), some (V.int c), w, some (.ref P), some (.ref D), some (.ref C), some (V.int x), o7, o8, o9] G r := fun {o7 G} => ev_var rfl rep_int
  have Cc : ∀ {o7 : Option V} {G : Hp}, EvR T (tVar 1) [some (V.int r), some (V.int c), w, some (.ref P), some (.ref D), some (.ref C), some (V.int x), o7, o8, o9] G c := fun {o7 G} => ev_var rfl rep_int
  refine s_if1 n.rd (et_and (et_B (ev_dnotinI X rfl n.repD)) fun _ => et_and (et_test (ev_cmp (ev_ixL (ev_var rfl n.repC) ev_int (x := a) rfl) R)) fun _ => et_test (ev_cmp (ev_ixL (ev_var rfl n.repC) ev_int (x := b) rfl) Cc)) (fun hb H1 e1 => ?_) fun hb H1 e1 => ?_
  · have n1 := n.go e1
    refine q_dputI n1.rd rfl X ev_bl n1.repD (by show told.length < 100000; have : told.length ≤ 100 := l3; omega) fun H2 e2 => ?_
    have n2 := (n1.go e2).setD (m := putD told x true)
    refine q_asg n2.rd (x := if x < r then (0 : Int) else 1) (ev_if (et_test (ev_cmp X R)) (fun hq => ?_) fun hq => ?_) fun v7 H3 e3 r3 => ?_
    · rw [if_pos (of_decide_eq_true hq)]
      exact ev_int
    · rw [if_neg (of_decide_eq_false hq)]
      exact ev_int
    have n3 := n2.go e3
    obtain rfl := of_int r3
    -- the count
    refine ⟨.ref C, rfl, .int (if x < r then 0 else 1), rfl, C, [.int a, .int b], (if x < r then 0 else 1), .int (if x < r then a else b), rfl, rfl, n3.hC, by split <;> rfl, ?_⟩
    refine ⟨_, 1, rfl, rfl, C, [.int a, .int b], (if x < r then 0 else 1), (if x < r then 0 else 1), rfl, rfl, n3.hC, by split <;> rfl, ?_⟩
    have e4 : List.set [V.int a, V.int b] (if x < r then 0 else 1) (V.int ((if x < r then a else b) + 1)) = [V.int (if x < r then a + 1 else a), V.int (if x < r then b else b + 1)] := by split <;> rfl
    rw [e4]
    have n4 := n3.setC (x := if x < r then a + 1 else a) (y := if x < r then b else b + 1)
    generalize hH4 : upd H3 C (.lst [V.int (if x < r then a + 1 else a), V.int (if x < r then b else b + 1)]) = H4 at n4 ⊢
    dsimp only
    have hst : ∀ ps, nstep r c (parts, told, a, b) x = (ps, putD told x true, if x < r then a + 1 else a, if x < r then b else b + 1) ↔ (if (decide (parts ≠ []) && decide (decide ((parts.getLastD []).headD 0 < r) = decide (x < r))) = true then parts.dropLast ++ [parts.getLastD [] ++ [x]] else parts ++ [[x]]) = ps := fun ps => by
      unfold nstep
      rw [if_pos hb]
      simp
    have hne' : ∀ p ∈ parts, p ≠ [] := hne
    refine s_if n4.rd (et_and (c := decide (decide ((parts.getLastD []).headD 0 < r) = decide (x < r))) (et_test (ev_ne (ev_var rfl n4.reps) (en_lst eas_nil (by decide)).r)) fun hp => ?_) (fun hq H5 e5 => ?_) fun hq H5 e5 => ?_
    · have hp' : parts ≠ [] := of_decide_eq_true hp
      have hl : atI parts (-1) = some (parts.getLastD []) := atL_last hp' _
      have hh : atI (parts.getLastD []) 0 = some ((parts.getLastD []).headD 0) := atL_head (hne' _ (getLastD_mem hp' _)) _
      exact et_test (ev_eq (ev_cmp (ev_ixL (ev_ixL (ev_var rfl n4.reps) (ev_neg ev_int) hl) ev_int hh) R) (ev_cmp X R))
    · have n5 := n4.go e5
      have hp' : parts ≠ [] := of_decide_eq_true (Bool.and_eq_true_iff.mp hq).1
      have hlen : Ls.length = parts.length := Paired.length n5.hL
      have hLne : Ls ≠ [] := fun z => hp' (List.length_eq_zero_iff.mp (by rw [← hlen, z] <;> rfl))
      have eL : Ls = Ls.dropLast ++ [Ls.getLastD 0] := split_last hLne _
      have eP : parts = parts.dropLast ++ [parts.getLastD []] := split_last hp' _
      have fl : (parts.getLastD []).length ≤ 100 := by
        have h1 : (parts.getLastD []).length ≤ parts.flatten.length := by
          conv => rhs; rw [eP]
          simp
        have h2 : parts.flatten.length ≤ 100 := l2
        omega
      have n5' : NS T S G H0 P D C (Ls.dropLast ++ [Ls.getLastD 0]) (parts.dropLast ++ [parts.getLastD []], putD told x true, if x < r then a + 1 else a, if x < r then b else b + 1) H5 := by
        rw [← eL, ← eP]
        exact n5
      have hLL : H5 (Ls.getLastD 0) = some (.lst ((parts.getLastD []).map V.int)) := n5'.lastL
      have n6 := n5'.grow (x := x)
      have eN := (hst _).mpr (if_pos hq)
      rw [← eN] at n6
      have aL : atI (Ls.map V.ref) (-1) = some (V.ref (Ls.getLastD 0)) := by
        rw [atL_last (by simpa using hLne) (V.ref 0), List.getLastD_eq_getLast?, List.getLast?_map, List.getLastD_eq_getLast?]
        cases Ls.getLast? <;> rfl
      exact ⟨.ref P, rfl, 1, rfl, P, Ls.map V.ref, -1, .ref (Ls.getLastD 0), rfl, rfl, .of n5.hP, aL, .inl ⟨rfl, _, .of hLL⟩, .int x, rfl, Ls.getLastD 0, _, .int x, rfl, rfl, hLL, by rw [List.length_map]; exact sz_lt (by omega), k _ _ _ n6⟩
    · have n5 := n4.go e5
      refine ⟨.ref P, rfl, .inl ⟨rfl, _, .of n5.hP⟩, .int x, rfl, by show (1 : Nat) ≤ sizeLine; decide, fun L hL => ?_⟩
      have n6 := n5.newL (x := x) hL
      have eN := (hst _).mpr (if_neg (by rw [hq]; simp))
      rw [← eN] at n6
      have pL : P ≠ L := fun z => by
        have := n5.hP
        rw [z, hL] at this
        cases this
      have hlen : Ls.length = parts.length := Paired.length n5.hL
      have h1' : parts.length ≤ 100 := l1
      exact ⟨P, Ls.map V.ref, .ref L, rfl, rfl, by rw [upd_ne pL]; exact n5.hP, by rw [List.length_map]; exact sz_lt (by omega), k _ _ _ n6⟩
  · refine k Ls o7 H1 ?_
    have : nstep r c (parts, told, a, b) x = (parts, told, a, b) := if_neg (by rw [hb]; simp)
    rw [this]
    exact n.go e1
theorem pure_normal_of (vs : List V) (H : Hp) (Q : VK) (E : XK) (h : sp_normal_of K T vs H Q E) : t_normal_of K T { nx := fun _ H' => Q .non H', rt := Q } (start n_normal_of vs) H := by
  obtain ⟨S, v, u, w, r, c, l, dom, rfl, hr, hc, hl, p, q⟩ := h
  obtain rfl := of_int hr
  obtain rfl := of_int hc
  refine ⟨by show (0 : Nat) ≤ sizeLine; decide, fun P hP => fun D hD => ⟨by show (2 : Nat) ≤ sizeLine; decide, fun C hC => ⟨_, _, _, rfl, ?_⟩⟩⟩
  have n0 := NS.init (T := T) dom hP hD hC
  generalize upd (upd (upd H P (.lst [])) D (.dK [])) C (.lst [.int 0, .int 0]) = H3 at n0 ⊢
  have hmax : ∀ i, i ≤ l.length → (∀ p ∈ (nrun r c (l.reverse.take i)).1, p ≠ []) ∧ (nrun r c (l.reverse.take i)).1.length ≤ 100 ∧ (nrun r c (l.reverse.take i)).1.flatten.length ≤ 100 ∧ (nrun r c (l.reverse.take i)).2.1.length ≤ 100 := fun i hi => by
    obtain ⟨h1, h2, h3, h4⟩ := nrun_ok r c (l.reverse.take i) ([], [], 0, 0) (fun p hp => nomatch hp)
    have hl : (l.reverse.take i).length ≤ 100 := by rw [List.length_take, List.length_reverse]; omega
    have h2' : (nrun r c (l.reverse.take i)).1.length ≤ 0 + (l.reverse.take i).length := h2
    have h3' : (nrun r c (l.reverse.take i)).1.flatten.length ≤ 0 + (l.reverse.take i).length := h3
    have h4' : (nrun r c (l.reverse.take i)).2.1.length ≤ 0 + (l.reverse.take i).length := h4
    exact ⟨h1, by omega, by omega, by omega⟩
  refine s_forS (S := P :: D :: C :: ([] ++ S)) n0.s (sr_list (en_rev (ev_var rfl hl)).r) (fun H1 i σ' H' => ∃ vx o7 Ls, σ' = [some (V.int r), some (V.int c), some w, some (.ref P), some (.ref D), some (.ref C), vx, o7, none, none] ∧ NS T S (hd (P :: D :: C :: ([] ++ S)) H1) H P D C Ls (nrun r c (l.reverse.take i)) H' ∧ i ≤ l.length) (fun H1 e1 => ⟨none, none, [], rfl, (n0.go e1).base, Nat.zero_le _⟩) (fun H1 i σ' H' ⟨_, _, _, _, n, _⟩ => ⟨_, n.s⟩) ?_ ?_
  · rintro H1 i x v σ' H' H'' e1 hi ⟨vx, o7, Ls, rfl, n, hil⟩ e2 rx
    obtain rfl := of_int (rx _ n.s)
    obtain ⟨h1, h2, h3, h4⟩ := hmax i hil
    have hlt : i < l.length := by
      have := (List.getElem?_eq_some_iff.mp hi).1
      rw [List.length_reverse] at this
      exact this
    have ht : nrun r c (l.reverse.take (i + 1)) = nstep r c (nrun r c (l.reverse.take i)) x := by
      unfold nrun
      rw [List.take_add_one, hi, List.foldl_append]
      rfl
    exact normal_step (n.go e2) rfl rfl rfl h1 h2 h3 h4 fun Ls' o7 H3 n3 => ⟨_, o7, Ls', rfl, by rw [ht]; exact n3, hlt⟩
  · rintro H1 σ' H' e1 ⟨vx, o7, Ls, rfl, n, hil⟩
    have et : l.reverse.take l.reverse.length = l.reverse := List.take_length
    obtain ⟨h1, h2, h3, h4⟩ := hmax l.length (Nat.le_refl _)
    rw [et] at n
    rw [← List.length_reverse (as := l), et] at h2 h3
    refine q_asgN n.rd (xs := ([] : List Int)) (en_lst eas_nil (by decide)) fun f vs H2 nf e2 le2 hf rf => ?_
    have n2 := n.go e2
    refine s_forS n2.rd (sr_list (en_rev (ev_var rfl n2.reps)).r) (fun H3 i σ' H'' => ∃ f o9, σ' = [some (V.int r), some (V.int c), some w, some (.ref P), some (.ref D), some (.ref C), vx, o7, some f, o9] ∧ Le T H3 H'' ∧ Sg T (hd S H3) S H'' ∧ Rep (hd S H'') f (((nrun r c l.reverse).1.reverse.take i).foldl (fun f s => f ++ isort s) [])) (fun H3 e3 => ⟨_, none, rfl, .same, ⟨(n2.rd.go e3).dom, .same⟩, ?_⟩) (fun H3 i σ' H'' ⟨_, _, _, _, s', _⟩ => ⟨_, s'⟩) ?_ ?_
    · have rf' : Rep (hd S H2) (.ref f) ([] : List Int) := rep_lst (by rw [hd_out nf]; exact hf) (rf.le (le_show (T := T)))
      exact rf'.le (e3.hd n2.dom)
    · rintro H3 i x v σ' H'' H4 e3 hi ⟨f', o9, rfl, e', s', r'⟩ e4 rx
      have rx' := rx S s'
      have e34 := e'.trans e4
      have s4 := s'.go e4
      have hfl := norm_len (nrun r c l.reverse).1 i
      have hx : x.length ≤ (nrun r c l.reverse).1.flatten.length := part_len (List.mem_reverse.mp (List.mem_of_getElem? hi))
      have hxi : (isort x).length = x.length := (isort_perm x).length_eq
      have ht : ((nrun r c l.reverse).1.reverse.take (i + 1)).foldl (fun f s => f ++ isort s) [] = ((nrun r c l.reverse).1.reverse.take i).foldl (fun f s => f ++ isort s) [] ++ isort x := by
        rw [List.take_add_one, hi, List.foldl_append]
        rfl
      have r4 := r'.le (e4.hd s'.dom)
      refine s_asg s4.up (en_cat (ev_var rfl r4) (en_sortI (ev_var rfl rx')).r (by omega)).r fun f2 H5 e5 r5 => ?_
      exact ⟨f2, some v, rfl, e34.trans e5, s4.go e5, by rw [ht]; exact r5⟩
    · rintro H3 σ' H'' e3 ⟨f', o9, rfl, e', s', r'⟩
      rw [List.take_length] at r'
      exact s_ret s'.up (ev_tupL (ev_var rfl r')) fun y H4 e4 r4 => q _ _ (((n2.le.trans e3).trans e').trans e4) r4
theorem cal_normal_of {k : Nat} (D : At K mg "normal_of" s_normal_of) (F : Fx mg) : Cal P w K mg base (k + 1) "normal_of" ["rows", "columns", "strokes"] (sp_normal_of K T) :=
  mk_cal D sc_normal_of (fun _ _ _ _ _ _ us hl => match us, hl with | [_, _, _], _ => rfl) (Pu3.len rfl) (fun f cdv A outer s H E hr => der_normal_of F hr) (fun vs H Q E h => pure_normal_of vs H Q E h)
end K4
end
section
set_option Elab.async false
set_option linter.all false
set_option maxRecDepth 100000
set_option maxHeartbeats 4000000
namespace K4
open PySem PySem.Spec PyProof.Rows L2 PySem.W
variable {P : Program} {w : World} {K : PySem.W.Frag} {mg : Str → Option Value} {base : Heap} {T : List (Addr × Str)}

def sp_law_normal (K : PySem.W.Frag) (T : List (Addr × Str)) : Sp := Pu3 T (fun (_ _ : Int) (l : List Int) => l.length ≤ 60) mLNormal
abbrev n_law_normal : List Str := ["_law_high", "_law_wide", "_law_lines", "_law_parts", "_law_used", "_law_line", "_law_rows", "_law_columns", "_law_found", "_law_some", "_law_one"]
theorem sc_law_normal : FnScope n_law_normal ["_law_high", "_law_wide", "_law_lines"] (defScope s_law_normal) := ⟨rfl, rfl, rfl, by decide +kernel, rfl, by decide +kernel, by decide +kernel⟩
def t_law_normal (K : PySem.W.Frag) (T : List (Addr × Str)) : TS := (tSeq (tPar 3 4 (tCons (tLst tNil) (tCons tDNewK tNil)))
  (tSeq (tFor (iList K (tRevL K (tVar 2))) (gName 5)
   (tSeq (tPar 6 7 (tCons (tCB (rLenS K) (tCons (tLockE (tLc (iKeys (tVar 4)) (gName 10) (tTest (tOp (rI0 fun i j => .bl (decide (i < j))) (tVar 10) (tVar 0))) (tVar 10) [10])) tNil)) (tCons (tCB (rLenS K) (tCons (tLockE (tLc (iKeys (tVar 4)) (gName 10) (tTest (tOp (rI0 fun i j => .bl (decide (j ≤ i))) (tVar 10) (tVar 0))) (tVar 10) [10])) tNil)) tNil)))
  (tIfS (tAnd (tB (tDNotIn (tVar 5) (tVar 4))) (tAnd (tTest (tOp (rI0 fun i j => .bl (decide (i < j))) (tVar 6) (tVar 0))) (tTest (tOp (rI0 fun i j => .bl (decide (i < j))) (tVar 7) (tVar 1))))) (tSeq (sDPut (tVar 4) (tVar 5) (tC (.bl true)))
  (tIfS (tAnd (tTest (tOp (rNeQ (List (List Int))) (tVar 3) (tLst tNil))) (tTest (tOp (rEqQ Bool) (tOp (rI0 fun i j => .bl (decide (i < j))) (tOp (rIxL K) (tOp (rIxL K) (tVar 3) (tC (.int 0))) (tC (.int 0))) (tVar 0)) (tOp (rI0 fun i j => .bl (decide (i < j))) (tVar 5) (tVar 0))))) (tAsg (tCB (rSortedI K) (tCons (tOp rCat (tOp (rIxL K) (tVar 3) (tC (.int 0))) (tLst (tCons (tVar 5) tNil))) tNil)) (gSub (tVar 3) (tC (.int 0)) rSetL)) (tAsg (tOp rCat (tLst (tCons (tLst (tCons (tVar 5) tNil)) tNil)) (tVar 3)) (gName 3)))) tNext)))
  (tSeq (tAsg (tLst tNil) (gName 8))
  (tSeq (tFor (iList K (tVar 3)) (gName 9)
   (tAsg (tOp rCat (tVar 8) (tVar 9)) (gName 8)))
  (tRet (tThen (tVar 8) (kTup K)))))))
theorem der_law_normal {k : Nat} {f : Addr} {cdv : Value} {A : Around} {outer : List Env} {s : Shared} {H : Hp} {E : XK} (F : Fx mg) (hr : Room k (A.deeper (envOfC "_law_normal" (defScope s_law_normal) s.heap.objs.size f cdv))) :
    PSs (cxOf CX0 P w K mg base n_law_normal "_law_normal" (defScope s_law_normal) f cdv A outer s H E).nox (defBody s_law_normal) (t_law_normal K T) :=
  (pss_cons (ps_par (i := 3) (j := 4) rfl sc_law_normal.nd rfl rfl (by decide) rfl rfl (pa_cons (pe_lst pa_nil) (pa_cons pe_dnewK pa_nil)) (by rfl))
  (pss_cons (ps_for PassesOwn.never rfl (pi_list (pe_revL (pv 2))) (pg_name (i := 5) sc_law_normal.nd rfl (.inl rfl))
   (pss_cons (ps_par (i := 6) (j := 7) rfl sc_law_normal.nd rfl rfl (by decide) rfl rfl (pa_cons (pe_callB call_len_seq (by rfl) F.b_len (by decide +kernel) (pa_cons (pe_lock (pe_lc (own := [("_law_one", 10)]) (g := (gName 10)) (tt := (tTest (tOp (rI0 fun i j => .bl (decide (i < j))) (tVar 10) (tVar 0)))) rfl sc_law_normal.nd (pi_keys (pv 4)) (blkOk_by (own := [("_law_one", 10)]) (N := n_law_normal) (sc := defScope s_law_normal) (by decide +kernel)) (fun _ _ _ _ _ => (pg_name (i := 10) sc_law_normal.nd rfl (.inl rfl))) (fun _ _ _ _ _ => (pts_one (pt_cmpR (op_lt) (pv 10) (pv 0) (nomark _)))) (fun _ _ _ _ _ => (pv 10)))) pa_nil)) (pa_cons (pe_callB call_len_seq (by rfl) F.b_len (by decide +kernel) (pa_cons (pe_lock (pe_lc (own := [("_law_one", 10)]) (g := (gName 10)) (tt := (tTest (tOp (rI0 fun i j => .bl (decide (j ≤ i))) (tVar 10) (tVar 0)))) rfl sc_law_normal.nd (pi_keys (pv 4)) (blkOk_by (own := [("_law_one", 10)]) (N := n_law_normal) (sc := defScope s_law_normal) (by decide +kernel)) (fun _ _ _ _ _ => (pg_name (i := 10) sc_law_normal.nd rfl (.inl rfl))) (fun _ _ _ _ _ => (pts_one (pt_cmpR (op_ge) (pv 10) (pv 0) (nomark _)))) (fun _ _ _ _ _ => (pv 10)))) pa_nil)) pa_nil)) (by rfl))
  (pss_one (ps_if (PW.pt (pw_and (pt_cmp (pc_dnotin (hu1 hr) (pv 5) (pv 4)) (by rfl)) (pw_and (pt_cmpR (op_lt) (pv 6) (pv 0) (nomark _)) (pw_and1 (pt_cmpR (op_lt) (pv 7) (pv 1) (nomark _)))))) (pss_cons (ps_dput (hu1 hr) (pv 4) (pv 5) pe_bl rfl)
  (pss_one (ps_if (PW.pt (pw_and (pt_cmpR (op_neQ hr.units) (pv 3) (pe_lst pa_nil) (nomark _)) (pw_and1 (pt_cmpR (op_eqQ hr.units) (pe_cmpR (op_lt) (pe_ix ix_list (pe_ix ix_list (pv 3) pe_int (fun _ _ => rfl)) pe_int (fun _ _ => rfl)) (pv 0) (nomark _)) (pe_cmpR (op_lt) (pv 5) (pv 0) (nomark _)) (nomark _))))) (pss_one (ps_asg (pe_callB cr_sortedI (by rfl) F.b_sorted (by decide +kernel) (pa_cons (pe_op op_cat (pe_ix ix_list (pv 3) pe_int (fun _ _ => rfl)) (pe_lst (pa_cons (pv 5) pa_nil))) pa_nil)) (pg_sub (pv 3) pe_int set_list))) (pss_one (ps_set (i := 3) sc_law_normal.nd rfl (.inl rfl) (pe_op op_cat (pe_lst (pa_cons (pe_lst (pa_cons (pv 5) pa_nil)) pa_nil)) (pv 3))))))) pss_nil))))
  (pss_cons (ps_set (i := 8) sc_law_normal.nd rfl (.inl rfl) (pe_lst pa_nil))
  (pss_cons (ps_for PassesOwn.never rfl (pi_list (pv 3)) (pg_name (i := 9) sc_law_normal.nd rfl (.inl rfl))
   (pss_one (ps_set (i := 8) sc_law_normal.nd rfl (.inl rfl) (pe_op op_cat (pv 8) (pv 9)))))
  (pss_one (ps_ret (pe_tupleOf (by rfl) F.b_tuple (pv 8))))))))
theorem ln_count {r : Int} {S : List Addr} {H : Hp} {D : Addr} {u : List (Int × Bool)} {o1 o2 o3 o5 o6 o7 o8 o9 o10 : Option V} {g : Int → Int → Bool} (hD : IsDI (hd S H) D u) (hl : u.length ≤ 100) :
    EvR T (tCB (rLenS K) (tCons (tLockE (tLc (iKeys (tVar 4)) (gName 10) (tTest (tOp (rI0 fun i j => .bl (g i j)) (tVar 10) (tVar 0))) (tVar 10) [10])) tNil)) [some (.int r), o1, o2, o3, some (.ref D), o5, o6, o7, o8, o9, o10] (hd S H) (lcnt (fun y => g y r) u) := by
  refine ev_is (ev_lenL (xs := ((u.map (·.1)).filter fun y => g y r)) (en_lockI (u := .dK (u.map kI)) trivial trivial hD fun od S1 H1 s1 => ?_).r) rfl
  have hp : hd S1 (upd H1 D (.frz od (.dK (u.map kI)))) D = some (.frz od (.dK (u.map kI))) := by
    have h2 := s1.le.soft (show hd S H D = some (.dK (u.map kI)) from hD) trivial
    rw [hd_out (hd_some h2).2, upd_same]
  have := en_lc (T := T) (σ := [some (.int r), o1, o2, o3, some (.ref D), o5, o6, o7, o8, o9, o10]) (te := tVar 10) (tt := tTest (tOp (rI0 fun i j => .bl (g i j)) (tVar 10) (tVar 0))) (g := gName 10) (vs := [10]) (fun y => g y r) (fun y => y) (sr_keysI (T := T) (n := 4) rfl hp) tgm_name (by rw [List.length_map]; omega) fun y hy v S2 H2 s2 ry => ⟨rfl, rfl, et_test (ev_cmp (ev_var rfl ry) (ev_var rfl rep_int)), fun _ => ev_var rfl ry⟩
  rw [List.map_id'] at this
  exact this
theorem law_normal_step {r c : Int} {D0 : Ends} {S S' : List Addr} {G H0 H : Hp} {P D : Addr} {st : LSt} {o2 o6 o7 o8 o9 o10 : Option V} {x : Int} (n : LN T S G H0 P D S' st H)
    (hne : ∀ p ∈ st.1, p ≠ []) (l1 : st.1.length ≤ 60) (l2 : st.1.flatten.length ≤ 60) (l3 : st.2.length ≤ 60) (k : ∀ P' S' o6 o7 H', LN T S G H0 P' D S' (lstep r c st x) H' → D0.nx [some (.int r), some (.int c), o2, some (.ref P'), some (.ref D), some (.int x), o6, o7, o8, o9, o10] H') :
    (tSeq (tPar 6 7 (tCons (tCB (rLenS K) (tCons (tLockE (tLc (iKeys (tVar 4)) (gName 10) (tTest (tOp (rI0 fun i j => .bl (decide (i < j))) (tVar 10) (tVar 0))) (tVar 10) [10])) tNil)) (tCons (tCB (rLenS K) (tCons (tLockE (tLc (iKeys (tVar 4)) (gName 10) (tTest (tOp (rI0 fun i j => .bl (decide (j ≤ i))) (tVar 10) (tVar 0))) (tVar 10) [10])) tNil)) tNil)))
  (tIfS (tAnd (tB (tDNotIn (tVar 5) (tVar 4))) (tAnd (tTest (tOp (rI0 fun i j => .bl (decide (i < j))) (tVar 6) (tVar 0))) (tTest (tOp (rI0 fun i j => .bl (decide (i < j))) (tVar 7) (tVar 1))))) (tSeq (sDPut (tVar 4) (tVar 5) (tC (.bl true)))
  (tIfS (tAnd (tTest (tOp (rNeQ (List (List Int))) (tVar 3) (tLst tNil))) (tTest (tOp (rEqQ Bool) (tOp (rI0 fun i j => .bl (decide (i < j))) (tOp (rIxL K) (tOp (rIxL K) (tVar 3) (tC (.int 0))) (tC (.int 0))) (tVar 0)) (tOp (rI0 fun i j => .bl (decide (i < j))) (tVar 5) (tVar 0))))) (tAsg (tCB (rSortedI K) (tCons (tOp rCat (tOp (rIxL K) (tVar 3) (tC (.int 0))) (tLst (tCons (tVar 5) tNil))) tNil)) (gSub (tVar 3) (tC (.int 0)) rSetL)) (tAsg (tOp rCat (tLst (tCons (tLst (tCons (tVar 5) tNil)) tNil)) (tVar 3)) (gName 3)))) tNext)) D0 [some (.int r), some (.int c), o2, some (.ref P), some (.ref D), some (.int x), o6, o7, o8, o9, o10] H := by
  obtain ⟨parts, used⟩ := st
  have l3' : used.length ≤ 100 := Nat.le_trans l3 (by decide)
  refine q_par n.rd (ln_count (g := fun i j => decide (i < j)) n.repD l3') (ln_count (g := fun i j => decide (j ≤ i)) n.repD l3') fun v6 v7 H1 e1 r6 r7 => ?_
  have n1 := n.go e1
  obtain rfl := of_int r6
  obtain rfl := of_int r7
  have X : ∀ {o6 o7 : Option V} {P : Addr} {G : Hp}, EvR T (tVar 5) [some (V.int r), some (V.int c), o2, some (.ref P), some (.ref D), some (V.int x), o6, o7, o8, o9, o10] G x := fun {o6 o7 P G} => ev_var rfl rep_int
  have R : ∀ {o6 o7 : Option V} {P : Addr} {G : Hp}, EvR T (tVar 0) [some (V.int r), some (V.int c), o2, some (.ref P), some (.ref D), some (V.int x), o6, o7, o8, o9, o10] G r := fun {o6 o7 P G} => ev_var rfl rep_int
  refine s_if1 n1.rd (et_and (et_B (ev_dnotinI X rfl n1.repD)) fun _ => et_and (et_test (ev_cmp (i := lcnt (fun y => decide (y < r)) used) (ev_var rfl rep_int) R)) fun _ => et_test (ev_cmp (i := lcnt (fun y => decide (r ≤ y)) used) (j := c) (ev_var rfl rep_int) (ev_var rfl rep_int))) (fun hb H2 e2 => ?_) fun hb H2 e2 => ?_
  · have n2 := n1.go e2
    refine q_dputI n2.rd rfl X ev_bl n2.repD (by omega) fun H3 e3 => ?_
    have n3 := (n2.go e3).setD (m := putD used x true)
    have hst : lstep r c (parts, used) x = (if (decide (parts ≠ []) && decide (decide ((parts.headD []).headD 0 < r) = decide (x < r))) = true then isort (parts.headD [] ++ [x]) :: parts.tail else [x] :: parts, putD used x true) := by
      unfold lstep
      rw [if_pos hb]
    have hne' : ∀ p ∈ parts, p ≠ [] := hne
    have hl : parts ≠ [] → atI parts 0 = some (parts.headD []) := fun h => atL_head h _
    refine s_if n3.rd (et_and (c := decide (decide ((parts.headD []).headD 0 < r) = decide (x < r))) (et_test (ev_ne (ev_var rfl n3.reps) (en_lst eas_nil (by decide)).r)) fun hp => ?_) (fun hq H5 e5 => ?_) fun hq H5 e5 => ?_
    · have hp' : parts ≠ [] := of_decide_eq_true hp
      have hm : parts.headD [] ∈ parts := by
        cases parts with
        | nil => exact absurd rfl hp'
        | cons p ps => exact List.mem_cons_self
      have hh : atI (parts.headD []) 0 = some ((parts.headD []).headD 0) := atL_head (hne' _ hm) _
      exact et_test (ev_eq (ev_cmp (ev_ixL (ev_ixL (ev_var rfl n3.reps) ev_int (hl hp')) ev_int hh) R) (ev_cmp X R))
    · have n5 := n3.go e5
      have hp' : parts ≠ [] := of_decide_eq_true (Bool.and_eq_true_iff.mp hq).1
      have fl : (parts.headD []).length ≤ 60 := by
        cases parts with
        | nil => exact absurd rfl hp'
        | cons p ps =>
          have h2 : (p :: ps).flatten.length ≤ 60 := l2
          rw [List.flatten_cons, List.length_append] at h2
          show p.length ≤ 60
          omega
      have fl2 : (parts.headD [] ++ [x]).length ≤ 61 := by
        rw [List.length_append, List.length_singleton]
        omega
      refine en_sortI (en_cat (ev_ixL (ev_var rfl n5.reps) ev_int (hl hp')) (en_lst (eas_cons X eas_nil) (show [x].length ≤ 100000 by rw [List.length_singleton]; decide)).r (by rw [List.length_singleton]; omega)).r S H5 n5.rd _ fun q0 vs0 H6 nq e6 le6 hq0 hr0 => ?_
      have n6 := n5.go e6
      have hr0' := hr0.ints
      subst hr0'
      have nS' : q0 ∉ S' := new_out nq le6 n5.s.dom
      obtain ⟨vs, hvP, hrP⟩ := n6.hP
      have rq : Rep (hd S' H6) (.ref q0) (isort (parts.headD [] ++ [x])) := rep_lst (by rw [hd_out nS']; exact hq0) (repAll_ints _)
      obtain ⟨p0, ps, rfl⟩ : ∃ p0 ps, parts = p0 :: ps := by
        cases parts with
        | nil => exact absurd rfl hp'
        | cons a b => exact ⟨a, b, rfl⟩
      obtain ⟨v0, vs', rfl, _, _⟩ := hrP.uncons
      refine ⟨.ref P, rfl, P, v0 :: vs', 0, 0, rfl, rfl, hvP, ixN0, ?_⟩
      have n7 := n6.setP (ps := isort (p0 ++ [x]) :: ps) (vs := (v0 :: vs').set 0 (.ref q0)) (hrP.set 0 rq)
      have eN := hst.trans (by rw [if_pos hq]; rfl : _ = (isort (p0 ++ [x]) :: ps, putD used x true))
      rw [← eN] at n7
      exact k P S' _ _ _ n7
    · have n5 := n3.go e5
      refine ⟨.int x, rfl, by show (1 : Nat) ≤ sizeLine; decide, fun L hL => ⟨by show (1 : Nat) ≤ sizeLine; decide, fun O hO => ?_⟩⟩
      have eL : Le T H5 (upd H5 L (.lst [.int x])) := .new hL
      have eO : Le T (upd H5 L (.lst [.int x])) (upd (upd H5 L (.lst [.int x])) O (.lst [.ref L])) := .new hO
      have n7 := n5.go (eL.trans eO)
      have hLL : (upd (upd H5 L (.lst [.int x])) O (.lst [.ref L])) L = some (.lst [.int x]) := eO.lst upd_same
      have nLS : L ∉ S' := n5.s.fresh hL
      obtain ⟨vs, hvP, hrP⟩ := n7.hP
      have lv : vs.length ≤ 60 := by rw [hrP.length]; exact l1
      refine ⟨.ref P, rfl, O, P, [.ref L], vs, rfl, rfl, upd_same, hvP, sz_of (by simp; omega), fun P' hP' => ?_⟩
      have rL : Rep (hd S' (upd (upd H5 L (.lst [.int x])) O (.lst [.ref L]))) (.ref L) [x] := rep_lst (by rw [hd_out nLS]; exact hLL) (repAll_ints [x])
      have n8 := n7.newP hP' (repAll_cons rL hrP)
      have eN := hst.trans (by rw [if_neg (by rw [hq]; simp)] : _ = ([x] :: parts, putD used x true))
      rw [← eN] at n8
      exact k P' (P' :: S') _ _ _ n8
  · refine k P S' _ _ H2 ?_
    have : lstep r c (parts, used) x = (parts, used) := if_neg (by rw [hb]; simp)
    rw [this]
    exact n1.go e2
theorem pure_law_normal (vs : List V) (H : Hp) (Q : VK) (E : XK) (h : sp_law_normal K T vs H Q E) : t_law_normal K T { nx := fun _ H' => Q .non H', rt := Q } (start n_law_normal vs) H := by
  obtain ⟨S, v, u, w, r, c, l, dom, rfl, hr, hc, hl, p, q⟩ := h
  obtain rfl := of_int hr
  obtain rfl := of_int hc
  refine ⟨by show (0 : Nat) ≤ sizeLine; decide, fun P hP => fun D hD => ⟨_, _, rfl, ?_⟩⟩
  have s0 : Sg T (hd S H) S H := ⟨dom, .same⟩
  have nDP : D ≠ P := fun z => by rw [z, upd_same] at hD; cases hD
  have hD0 : H D = none := by rw [upd_ne nDP] at hD; exact hD
  have n0 : LN T S (hd S H) H P D (D :: P :: S) ([], []) (upd (upd H P (.lst [])) D (.dK [])) := by
    refine ⟨(s0.hide (o := .lst []) hP trivial).hide hD trivial, (Le.new hP).trans (.new hD), fun b hb => by simp [hb], by simp, by simp, s0.fresh hP, s0.fresh hD0, fun o h => by (rw [hP] at h; cases h), fun o h => by (rw [hD0] at h; cases h), ⟨[], by rw [upd_ne (Ne.symm nDP), upd_same], repAll_nil⟩, upd_same⟩
  generalize upd (upd H P (.lst [])) D (.dK []) = H3 at n0 ⊢
  have hmax : ∀ i, i ≤ l.length → (∀ p ∈ (lrun r c (l.reverse.take i)).1, p ≠ []) ∧ (lrun r c (l.reverse.take i)).1.length ≤ 60 ∧ (lrun r c (l.reverse.take i)).1.flatten.length ≤ 60 ∧ (lrun r c (l.reverse.take i)).2.length ≤ 60 := fun i hi => by
    obtain ⟨h1, h2, h3, h4⟩ := lrun_ok r c (l.reverse.take i) ([], []) (fun p hp => nomatch hp)
    have hl : (l.reverse.take i).length ≤ 60 := by rw [List.length_take, List.length_reverse]; omega
    have h2' : (lrun r c (l.reverse.take i)).1.length ≤ 0 + (l.reverse.take i).length := h2
    have h3' : (lrun r c (l.reverse.take i)).1.flatten.length ≤ 0 + (l.reverse.take i).length := h3
    have h4' : (lrun r c (l.reverse.take i)).2.length ≤ 0 + (l.reverse.take i).length := h4
    exact ⟨h1, by omega, by omega, by omega⟩
  refine s_forS n0.s (sr_list (en_rev (ev_var rfl hl)).r) (fun H1 i σ' H' => ∃ P' S' o5 o6 o7, σ' = [some (V.int r), some (V.int c), some w, some (.ref P'), some (.ref D), o5, o6, o7, none, none, none] ∧ LN T S (hd (D :: P :: S) H1) H P' D S' (lrun r c (l.reverse.take i)) H' ∧ i ≤ l.length) (fun H1 e1 => ⟨P, D :: P :: S, none, none, none, rfl, (n0.go e1).base, Nat.zero_le _⟩) (fun H1 i σ' H' ⟨_, S', _, _, _, _, n, _⟩ => ⟨S', n.s⟩) ?_ ?_
  · rintro H1 i x v σ' H' H'' e1 hi ⟨P', S', o5, o6, o7, rfl, n, hil⟩ e2 rx
    obtain rfl := of_int (rx _ n.s)
    obtain ⟨h1, h2, h3, h4⟩ := hmax i hil
    have hlt : i < l.length := by
      have := (List.getElem?_eq_some_iff.mp hi).1
      rw [List.length_reverse] at this
      exact this
    have ht : lrun r c (l.reverse.take (i + 1)) = lstep r c (lrun r c (l.reverse.take i)) x := by
      unfold lrun
      rw [List.take_add_one, hi, List.foldl_append]
      rfl
    exact law_normal_step (n.go e2) h1 h2 h3 h4 fun P2 S2 o6 o7 H3 n3 => ⟨P2, S2, _, o6, o7, rfl, by rw [ht]; exact n3, hlt⟩
  · rintro H1 σ' H' e1 ⟨P', S', o5, o6, o7, rfl, n, hil⟩
    have et : l.reverse.take l.reverse.length = l.reverse := List.take_length
    obtain ⟨h1, h2, h3, h4⟩ := hmax l.length (Nat.le_refl _)
    rw [et] at n
    rw [← List.length_reverse (as := l), et] at h2 h3
    refine q_asgN n.rd (xs := ([] : List Int)) (en_lst eas_nil (by decide)) fun f vs H2 nf e2 le2 hf rf => ?_
    have n2 := n.go e2
    refine s_forS n2.rd (sr_list (ev_var rfl n2.reps)) (fun H3 i σ' H'' => ∃ f o9, σ' = [some (V.int r), some (V.int c), some w, some (.ref P'), some (.ref D), o5, o6, o7, some f, o9, none] ∧ Le T H3 H'' ∧ Sg T (hd S H3) S H'' ∧ Rep (hd S H'') f (((lrun r c l.reverse).1.take i).foldl (fun f s => f ++ s) [])) (fun H3 e3 => ⟨_, none, rfl, .same, ⟨(n2.rd.go e3).dom, .same⟩, ?_⟩) (fun H3 i σ' H'' ⟨_, _, _, _, s', _⟩ => ⟨_, s'⟩) ?_ ?_
    · have rf' : Rep (hd S H2) (.ref f) ([] : List Int) := rep_lst (by rw [hd_out nf]; exact hf) (rf.le (le_show (T := T)))
      exact rf'.le (e3.hd n2.rd.dom)
    · rintro H3 i x v σ' H'' H4 e3 hi ⟨f', o9, rfl, e', s', r'⟩ e4 rx
      have rx' := rx S s'
      have e34 := e'.trans e4
      have s4 := s'.go e4
      have hfl : (((lrun r c l.reverse).1.take i).foldl (fun f s => f ++ s) []).length ≤ (lrun r c l.reverse).1.flatten.length := by
        rw [cat_go, List.length_nil, Nat.zero_add]
        exact take_flat _ _
      have hx : x.length ≤ (lrun r c l.reverse).1.flatten.length := part_len (List.mem_of_getElem? hi)
      have ht : ((lrun r c l.reverse).1.take (i + 1)).foldl (fun f s => f ++ s) [] = ((lrun r c l.reverse).1.take i).foldl (fun f s => f ++ s) [] ++ x := by
        rw [List.take_add_one, hi, List.foldl_append]
        rfl
      have r4 := r'.le (e4.hd s'.dom)
      refine s_asg s4.up (en_cat (ev_var rfl r4) (ev_var rfl rx') (by omega)).r fun f2 H5 e5 r5 => ?_
      exact ⟨f2, some v, rfl, e34.trans e5, s4.go e5, by rw [ht]; exact r5⟩
    · rintro H3 σ' H'' e3 ⟨f', o9, rfl, e', s', r'⟩
      rw [List.take_length] at r'
      exact s_ret s'.up (ev_tupL (ev_var rfl r')) fun y H4 e4 r4 => q _ _ (((n2.le.trans e3).trans e').trans e4) r4
theorem cal_law_normal {k : Nat} (D : At K mg "_law_normal" s_law_normal) (F : Fx mg) : Cal P w K mg base (k + 1) "_law_normal" ["_law_high", "_law_wide", "_law_lines"] (sp_law_normal K T) :=
  mk_cal D sc_law_normal (fun _ _ _ _ _ _ us hl => match us, hl with | [_, _, _], _ => rfl) (Pu3.len rfl) (fun f cdv A outer s H E hr => der_law_normal F hr) (fun vs H Q E h => pure_law_normal vs H Q E h)
end K4
end
section
set_option Elab.async false
set_option linter.all false
set_option maxRecDepth 100000
set_option maxHeartbeats 4000000
namespace K4
open PySem PySem.Spec PyProof.Rows L2 PySem.W
variable {P : Program} {w : World} {K : PySem.W.Frag} {mg : Str → Option Value} {base : Heap} {T : List (Addr × Str)}

def okEff (r c : Int) (e : Tup Int) : Prop := e.items.length ≤ 60 ∧ mStrokes r c e.items = true ∧ mNormal r c e.items = e
def sp_is_effect_of (K : PySem.W.Frag) (T : List (Addr × Str)) : Sp := Pu3 T okEff fun (_ _ : Int) (_ : Tup Int) => true
abbrev n_is_effect_of : List Str := ["rows", "columns", "value"]
theorem sc_is_effect_of : FnScope n_is_effect_of ["rows", "columns", "value"] (defScope s_is_effect_of) := ⟨rfl, rfl, rfl, by decide +kernel, rfl, by decide +kernel, by decide +kernel⟩
def t_is_effect_of (K : PySem.W.Frag) (T : List (Addr × Str)) : TS := (tSeq (tIfS (tOr (tNot (tB (tCB (rIsi K) (tCons (tVar 2) (tCons (tC (.ty "tuple")) tNil))))) (tNot (tB (tCall (sp_are_strokes K T) [] E0 (tCons (tVar 0) (tCons (tVar 1) (tCons (tCB (rListS K) (tCons (tVar 2) tNil)) tNil))))))) (tRet (tC (.bl false))) tNext)
  (tRet (tOp (rEqQ (Tup Int)) (tCall (sp_normal_of K T) [] E0 (tCons (tVar 0) (tCons (tVar 1) (tCons (tCB (rListS K) (tCons (tVar 2) tNil)) tNil)))) (tVar 2))))
theorem der_is_effect_of {k : Nat} {f : Addr} {cdv : Value} {A : Around} {outer : List Env} {s : Shared} {H : Hp} {E : XK} (F : Fx mg) (C_are_strokes : Cal P w K mg base k "are_strokes" ["rows", "columns", "value"] (sp_are_strokes K T)) (C_normal_of : Cal P w K mg base k "normal_of" ["rows", "columns", "strokes"] (sp_normal_of K T)) (hr : Room k (A.deeper (envOfC "is_effect_of" (defScope s_is_effect_of) s.heap.objs.size f cdv))) :
    PSs (cxOf CX0 P w K mg base n_is_effect_of "is_effect_of" (defScope s_is_effect_of) f cdv A outer s H E).nox (defBody s_is_effect_of) (t_is_effect_of K T) :=
  (pss_cons (ps_if (PW.pt (pw_or (pt_not (pt_val (pe_callB call_isi (by rfl) F.b_isinstance (by decide +kernel) (pa_cons (pv 2) (pa_cons (pe_bltn (v := .ty "tuple") (by rfl) F.b_tuple (by decide +kernel) rfl) pa_nil))))) (pw_or1 (pt_not (pt_val (pe_cal C_are_strokes hr (by rfl) (pa_cons (pv 0) (pa_cons (pv 1) (pa_cons (pe_callTy call_list_of (by rfl) F.b_list (by decide +kernel) (pa_cons (pv 2) pa_nil)) pa_nil))))))))) (pss_one (ps_ret pe_bl)) pss_nil)
  (pss_one (ps_ret (pe_cmpR (op_eqQ hr.units) (pe_cal C_normal_of hr (by rfl) (pa_cons (pv 0) (pa_cons (pv 1) (pa_cons (pe_callTy call_list_of (by rfl) F.b_list (by decide +kernel) (pa_cons (pv 2) pa_nil)) pa_nil)))) (pv 2) (nomark _)))))
theorem pure_is_effect_of (vs : List V) (H : Hp) (Q : VK) (E : XK) (h : sp_is_effect_of K T vs H Q E) : t_is_effect_of K T { nx := fun _ H' => Q .non H', rt := Q } (start n_is_effect_of vs) H := by
  obtain ⟨S, v, u, w, r, c, e, dom, rfl, hr, hc, he, ⟨p1, p2, p3⟩, q⟩ := h
  have s0 : Sg T (hd S H) S H := ⟨dom, .same⟩
  refine q_skip (s0) (et_is (et_or (et_not (et_B (ev_isi true (ev_var rfl he) (by decide +kernel)))) fun _ => et_not (et_B (ev_call3 (ev_var rfl hr) (ev_var rfl hc) (en_listT (ev_var rfl he)).r (by omega)))) (by rw [p2] <;> rfl)) fun H1 e1 => ?_
  refine s_ret (s0.go e1).up (ev_is (ev_eq (ev_call3 (ev_var rfl (hr.le (e1.hd dom))) (ev_var rfl (hc.le (e1.hd dom))) (en_listT (ev_var rfl (he.le (e1.hd dom)))).r (by omega)) (ev_var rfl (he.le (e1.hd dom)))) (by rw [p3] <;> simp)) fun y H2 e2 r2 => q _ _ (e1.trans e2) r2
theorem cal_is_effect_of {k : Nat} (D : At K mg "is_effect_of" s_is_effect_of) (F : Fx mg) (C_are_strokes : Cal P w K mg base k "are_strokes" ["rows", "columns", "value"] (sp_are_strokes K T)) (C_normal_of : Cal P w K mg base k "normal_of" ["rows", "columns", "strokes"] (sp_normal_of K T)) : Cal P w K mg base (k + 1) "is_effect_of" ["rows", "columns", "value"] (sp_is_effect_of K T) :=
  mk_cal D sc_is_effect_of (fun _ _ _ _ _ _ us hl => match us, hl with | [_, _, _], _ => rfl) (Pu3.len rfl) (fun f cdv A outer s H E hr => der_is_effect_of F C_are_strokes C_normal_of hr) (fun vs H Q E h => pure_is_effect_of vs H Q E h)
def okD (m : DMeas) : Prop := (m.map (·.1)).Nodup ∧ m ≠ [] ∧ m.length ≤ 500 ∧ ∀ e ∈ m, 1 ≤ e.2 ∧ e.2 ≤ B30
def sp_tidied (K : PySem.W.Frag) (T : List (Addr × Str)) : Sp := PuD1 T okD mTidied
abbrev n_tidied : List Str := ["told", "shared", "weight", "one"]
theorem sc_tidied : FnScope n_tidied ["told"] (defScope s_tidied) := ⟨rfl, rfl, rfl, by decide +kernel, rfl, by decide +kernel, by decide +kernel⟩
def t_tidied (K : PySem.W.Frag) (T : List (Addr × Str)) : TS := (tSeq (tAsg (tC (.int 0)) (gName 1))
  (tSeq (tLock (tFor (iValsT (tVar 0)) (gName 2)
   (tAsg (tCall (sp_common K T) [] E0 (tCons (tVar 2) (tCons (tVar 1) tNil))) (gName 1))))
  (tRet (tThen (tLc (iList K (tCB rSortDT (tCons (tVar 0) tNil))) (gName 3) tYes (tTup (tCons (tVar 3) (tCons (tOp (rI CDivW fun i j => .int (i / j)) (tDGet (tVar 0) (tVar 3)) (tVar 1)) tNil))) [3]) (kTup K)))))
theorem der_tidied {k : Nat} {f : Addr} {cdv : Value} {A : Around} {outer : List Env} {s : Shared} {H : Hp} {E : XK} (F : Fx mg) (C_common : Cal P w K mg base k "common" ["one", "other"] (sp_common K T)) (hr : Room k (A.deeper (envOfC "tidied" (defScope s_tidied) s.heap.objs.size f cdv))) :
    PSs (cxOf CX0 P w K mg base n_tidied "tidied" (defScope s_tidied) f cdv A outer s H E).nox (defBody s_tidied) (t_tidied K T) :=
  (pss_cons (ps_set (i := 1) sc_tidied.nd rfl (.inr rfl) pe_int)
  (pss_cons (ps_lock (ps_for PassesOwn.never rfl (pi_valuesT (pv 0)) (pg_name (i := 2) sc_tidied.nd rfl (.inl rfl))
   (pss_one (ps_set (i := 1) sc_tidied.nd rfl (.inr rfl) (pe_cal C_common hr (by rfl) (pa_cons (pv 2) (pa_cons (pv 1) pa_nil)))))))
  (pss_one (ps_ret (pe_tupleOf (by rfl) F.b_tuple (pe_lc (own := [("one", 3)]) (g := (gName 3)) (tt := tYes) rfl sc_tidied.nd (pi_list (pe_callB (cr_sortDT rfl hr.units) (by rfl) F.b_sorted (by decide +kernel) (pa_cons (pv 0) pa_nil))) (blkOk_by (own := [("one", 3)]) (N := n_tidied) (sc := defScope s_tidied) (by decide +kernel)) (fun _ _ _ _ _ => (pg_name (i := 3) sc_tidied.nd rfl (.inl rfl))) (fun _ _ _ _ _ => pts_nil) (fun _ _ _ _ _ => (pe_tup (pa_cons (pv 3) (pa_cons (pe_op op_fdivW (pe_dget (hu1 hr) (pv 0) (pv 3) (fun _ _ => rfl)) (pv 1)) pa_nil))))))))))
theorem tidied_items {S : List Addr} {H : Hp} {p : Addr} {m : DMeas} {sh : Int} {o2 o3 : Option V} (hm : IsDT (hd S H) p m) (ok : okD m) (hs : sh = mShared m) :
    EvN T (tLc (iList K (tCB rSortDT (tCons (tVar 0) tNil))) (gName 3) tYes (tTup (tCons (tVar 3) (tCons (tOp (rI CDivW fun i j => .int (i / j)) (tDGet (tVar 0) (tVar 3)) (tVar 1)) tNil))) [3]) [some (V.ref p), some (V.int sh), o2, o3] (hd S H) (((lsort (m.map fun e => e.1.items)).map Tup.mk).map fun k => (k, valD m k / mShared m)) := by
  obtain ⟨nd, ne, ml, pos⟩ := ok
  have sg := shared_go m 0 (by decide) fun e he => (pos e he).1
  have hlen : ((lsort (m.map fun e => e.1.items)).map Tup.mk).length ≤ 500 := by
    rw [List.length_map, (lsort_perm _).length_eq, List.length_map]
    exact ml
  refine en_map _ (sr_list (en_sortDT rfl hm (by omega)).r) tgm_name (by omega) fun k hk v S' H' s rk => ⟨rfl, rfl, ?_⟩
  have hmem : k ∈ m.map (·.1) := by
    obtain ⟨l, hl, rfl⟩ := List.mem_map.mp hk
    obtain ⟨e, he, rfl⟩ := List.mem_map.mp ((lsort_perm _).mem_iff.mp hl)
    exact List.mem_map.mpr ⟨e, he, rfl⟩
  obtain ⟨y, hy⟩ := getD'_some hmem
  have hv : valD m k = y := by unfold valD; rw [hy] <;> rfl
  rw [hv, ← hs]
  have hsh : 0 < sh ∧ sh ≤ B30 := by
    rw [hs]
    refine ⟨sg.2.1 ne, ?_⟩
    obtain ⟨e, he⟩ := List.exists_mem_of_ne_nil m ne
    exact Int.le_trans (sg.2.2 e he) (pos e he).2
  exact ev_tup2 (ev_var rfl rk) (ev_opI (ev_dgetT rfl (ev_var rfl rk) (s.le.soft hm trivial) hy) (ev_var (x := sh) rfl rep_int) (cdiv hsh.1 (by have := hsh.2; unfold B30 at this; omega)))
theorem pure_tidied (vs : List V) (H : Hp) (Q : VK) (E : XK) (h : sp_tidied K T vs H Q E) : t_tidied K T { nx := fun _ H' => Q .non H', rt := Q } (start n_tidied vs) H := by
  obtain ⟨S, p, m, dom, rfl, hm, ok, _, q⟩ := h
  have ok' := ok
  obtain ⟨nd, ne, ml, pos⟩ := ok
  have s0 : Sg T (hd S H) S H := ⟨dom, .same⟩
  have np : p ∉ S := (hd_some hm).2
  refine q_asg s0 (ev_int (i := 0)) fun v1 H1 e1 r1 => ?_
  obtain rfl := of_int r1
  have s1 := s0.go e1
  have hm1 := e1.soft (hd_some hm).1 trivial
  refine q_lockS (u := .dT (m.map kE)) s1 trivial trivial hm fun od => ?_
  have dl := dom_lock (o := od) s1.dom hm1 np
  have hg : hd S (upd H1 p (.frz od (.dT (m.map kE)))) p = some (.frz od (.dT (m.map kE))) := by rw [hd_out np, upd_same]
  refine s_forS (S := S) (G := hd S (upd H1 p (.frz od (.dT (m.map kE))))) ⟨dl, .same⟩ (sr_valsT (n := 0) rfl hg) (fun H2 i σ' H' => ∃ o, σ' = [some (.ref p), some (.int ((m.take i).foldl (fun s e => mGcd e.2 s) 0)), o, none] ∧ Le T H2 H' ∧ Sg T (hd S H2) S H') (fun H2 e2 => ⟨none, rfl, .same, ⟨(Sg.go (G := hd S (upd H1 p (.frz od (.dT (m.map kE))))) ⟨dl, .same⟩ e2).dom, .same⟩⟩) (fun H2 i σ' H' ⟨_, _, _, s'⟩ => ⟨S, s'⟩) ?_ ?_
  · rintro H2 i x v σ' H' H'' e2 hi ⟨o, rfl, e', s'⟩ e3 rx
    obtain rfl := of_int (rx S s')
    have s3 := s'.go e3
    rw [List.getElem?_map] at hi
    cases he : m[i]? with
    | none => rw [he] at hi; cases hi
    | some e =>
      rw [he] at hi
      cases hi
      have hpos := pos e (List.mem_of_getElem? he)
      have hs0 : 0 ≤ (m.take i).foldl (fun s e => mGcd e.2 s) 0 := (shared_go (m.take i) 0 (by decide) fun e he => (pos e (List.mem_of_mem_take he)).1).1
      have ht : (m.take (i + 1)).foldl (fun s e => mGcd e.2 s) 0 = mGcd e.2 ((m.take i).foldl (fun s e => mGcd e.2 s) 0) := by
        rw [List.take_add_one, he, List.foldl_append]
        rfl
      refine s_asg s3.up (ev_call2 (ev_var (x := e.2) rfl rep_int) (ev_var (x := (m.take i).foldl (fun s e => mGcd e.2 s) 0) rfl rep_int) ⟨by omega, hs0⟩) fun w H5 e5 r5 => ?_
      obtain rfl := of_int r5
      exact ⟨_, by rw [ht] <;> rfl, (e'.trans e3).trans e5, s3.go e5⟩
  · rintro H2 σ' H' e2 ⟨o, rfl, e', s'⟩
    rw [List.length_map, List.take_length]
    have eA := e2.trans e'
    have hp' : H' p = some (.frz od (.dT (m.map kE))) := eA.soft upd_same trivial
    have eU : Le T H1 (upd H' p (.dT (m.map kE))) := Le.unlock hm1 trivial eA
    have s4 := s1.go eU
    have hm4 : IsDT (hd S (upd H' p (.dT (m.map kE)))) p m := by
      show hd S _ p = _
      rw [hd_out np, upd_same]
    refine ⟨hp', s_ret s4.up (ev_tupL (tidied_items (o2 := o) (o3 := none) hm4 ok' rfl).r) fun y H5 e5 r5 => q _ _ ((e1.trans eU).trans e5) r5⟩
theorem cal_tidied {k : Nat} (D : At K mg "tidied" s_tidied) (F : Fx mg) (C_common : Cal P w K mg base k "common" ["one", "other"] (sp_common K T)) : Cal P w K mg base (k + 1) "tidied" ["told"] (sp_tidied K T) :=
  mk_cal D sc_tidied (fun _ _ _ _ _ _ us hl => match us, hl with | [_], _ => rfl) (PuD1.len rfl) (fun f cdv A outer s H E hr => der_tidied F C_common hr) (fun vs H Q E h => pure_tidied vs H Q E h)
end K4
end
section
set_option Elab.async false
set_option linter.all false
set_option maxRecDepth 100000
set_option maxHeartbeats 4000000
namespace K4
open PySem PySem.Spec PyProof.Rows L2 PySem.W
variable {P : Program} {w : World} {K : PySem.W.Frag} {mg : Str → Option Value} {base : Heap} {T : List (Addr × Str)}

def okMeas (r c : Int) (m : Meas) : Prop := 1 ≤ m.items.length ∧ m.items.length ≤ 500 ∧ (∀ e ∈ m.items, okEff r c e.1 ∧ 1 ≤ e.2 ∧ e.2 ≤ B30) ∧ ((m.items.zip (cut m.items (some 1) none)).map fun e => HT.lexLt e.1.1.items e.2.1.items).all id = true ∧ okD (dictOf m.items) ∧ mTidied (dictOf m.items) = m
def sp_is_measure_of (K : PySem.W.Frag) (T : List (Addr × Str)) : Sp := Pu3x T okMeas fun (_ _ : Int) (_ : Meas) => true
abbrev n_is_measure_of : List Str := ["rows", "columns", "value", "pair", "one", "other"]
theorem sc_is_measure_of : FnScope n_is_measure_of ["rows", "columns", "value"] (defScope s_is_measure_of) := ⟨rfl, rfl, rfl, by decide +kernel, rfl, by decide +kernel, by decide +kernel⟩
def t_is_measure_of (K : PySem.W.Frag) (T : List (Addr × Str)) : TS := (tSeq (tIfS (tOr (tNot (tB (tCB (rIsi K) (tCons (tVar 2) (tCons (tC (.ty "tuple")) tNil))))) (tNot (tTest (tChain (rI0 fun i j => .bl (decide (i ≤ j))) (rI0 fun i j => .bl (decide (i ≤ j))) (tC (.int 1)) (tCB (rLenS K) (tCons (tVar 2) tNil)) (tC (.int 500)))))) (tRet (tC (.bl false))) tNext)
  (tSeq (tFor (iTup K (tVar 2)) (gName 3)
   (tSeq (tIfS (tOr (tNot (tB (tCB (rIsi K) (tCons (tVar 3) (tCons (tC (.ty "tuple")) tNil))))) (tOr (tTest (tOp (rNeQ Int) (tCB (rLenS K) (tCons (tVar 3) tNil)) (tC (.int 2)))) (tNot (tB (tCall (sp_is_effect_of K T) [] E0 (tCons (tVar 0) (tCons (tVar 1) (tCons (tOp (rIxT K) (tVar 3) (tC (.int 0))) tNil)))))))) (tRet (tC (.bl false))) tNext)
  (tIfS (tOr (tNot (tB (tCall (sp_is_int K T) [] E0 (tCons (tOp (rIxT K) (tVar 3) (tC (.int 1))) tNil)))) (tTest (tOp (rI0 fun i j => .bl (decide (i < j))) (tOp (rIxT K) (tVar 3) (tC (.int 1))) (tC (.int 1))))) (tRet (tC (.bl false))) tNext)))
  (tSeq (tIfS (tNot (tB (tCB (rAll K) (tCons (tLc (RZ.iZipA K (tCons (tVar 2) (tCons (tSl (rSlA K) (tVar 2) (tPart (tC (.int 1))) tNoPart) tNil))) (gTup K 2 (gCons (gName 4) (gCons (gName 5) gNil))) tYes (tOp (rLtT K) (tOp (rIxT K) (tVar 4) (tC (.int 0))) (tOp (rIxT K) (tVar 5) (tC (.int 0)))) [4, 5]) tNil)))) (tRet (tC (.bl false))) tNext)
  (tRet (tOp (rEqQ (Tup ((Tup Int) × Int))) (tCall (sp_tidied K T) [] E0 (tCons (tCB rDictPT (tCons (tVar 2) tNil)) tNil)) (tVar 2))))))
theorem der_is_measure_of {k : Nat} {f : Addr} {cdv : Value} {A : Around} {outer : List Env} {s : Shared} {H : Hp} {E : XK} (F : Fx mg) (C_is_effect_of : Cal P w K mg base k "is_effect_of" ["rows", "columns", "value"] (sp_is_effect_of K T)) (C_is_int : Cal P w K mg base k "is_int" ["value"] (sp_is_int K T)) (C_tidied : Cal P w K mg base k "tidied" ["told"] (sp_tidied K T)) (hr : Room k (A.deeper (envOfC "is_measure_of" (defScope s_is_measure_of) s.heap.objs.size f cdv))) :
    PSs (cxOf CX0 P w K mg base n_is_measure_of "is_measure_of" (defScope s_is_measure_of) f cdv A outer s H E).nox (defBody s_is_measure_of) (t_is_measure_of K T) :=
  (pss_cons (ps_if (PW.pt (pw_or (pt_not (pt_val (pe_callB call_isi (by rfl) F.b_isinstance (by decide +kernel) (pa_cons (pv 2) (pa_cons (pe_bltn (v := .ty "tuple") (by rfl) F.b_tuple (by decide +kernel) rfl) pa_nil))))) (pw_or1 (pt_not (pt_chain op_le op_le pe_int (pe_callB call_len_seq (by rfl) F.b_len (by decide +kernel) (pa_cons (pv 2) pa_nil)) (C8.pe_gc (by rfl) F.c_MOST_LISTED)))))) (pss_one (ps_ret pe_bl)) pss_nil)
  (pss_cons (ps_for PassesOwn.never rfl (pi_tup (pv 2)) (pg_name (i := 3) sc_is_measure_of.nd rfl (.inl rfl))
   (pss_cons (ps_if (PW.pt (pw_or (pt_not (pt_val (pe_callB call_isi (by rfl) F.b_isinstance (by decide +kernel) (pa_cons (pv 3) (pa_cons (pe_bltn (v := .ty "tuple") (by rfl) F.b_tuple (by decide +kernel) rfl) pa_nil))))) (pw_or (pt_cmpR (op_neQ hr.units) (pe_callB call_len_seq (by rfl) F.b_len (by decide +kernel) (pa_cons (pv 3) pa_nil)) pe_int (nomark _)) (pw_or1 (pt_not (pt_val (pe_cal C_is_effect_of hr (by rfl) (pa_cons (pv 0) (pa_cons (pv 1) (pa_cons (pe_ix ix_tup (pv 3) pe_int (fun _ _ => rfl)) pa_nil)))))))))) (pss_one (ps_ret pe_bl)) pss_nil)
  (pss_one (ps_if (PW.pt (pw_or (pt_not (pt_val (pe_cal C_is_int hr (by rfl) (pa_cons (pe_ix ix_tup (pv 3) pe_int (fun _ _ => rfl)) pa_nil)))) (pw_or1 (pt_cmpR (op_lt) (pe_ix ix_tup (pv 3) pe_int (fun _ _ => rfl)) pe_int (nomark _))))) (pss_one (ps_ret pe_bl)) pss_nil))))
  (pss_cons (ps_if (pt_not (pt_val (pe_callB (cr_all rfl) (by rfl) F.b_all (by decide +kernel) (pa_cons (pe_lc (own := [("one", 4), ("other", 5)]) (g := (gTup K 2 (gCons (gName 4) (gCons (gName 5) gNil)))) (tt := tYes) rfl sc_is_measure_of.nd (RZ.pi_zipA (by rfl) F.b_zip (pa_cons (pv 2) (pa_cons (pe_slice sl_tupA (pv 2) (po_some pe_int) po_none) pa_nil))) (blkOk_by (own := [("one", 4), ("other", 5)]) (N := n_is_measure_of) (sc := defScope s_is_measure_of) (by decide +kernel)) (fun _ _ _ _ _ => (pg_tup rfl (pgs_cons (pg_name (i := 4) sc_is_measure_of.nd rfl (.inl rfl)) (pgs_cons (pg_name (i := 5) sc_is_measure_of.nd rfl (.inl rfl)) pgs_nil)))) (fun _ _ _ _ _ => pts_nil) (fun _ _ _ _ _ => (pe_cmpR ((op_ltT hr.units0)) (pe_ix ix_tup (pv 4) pe_int (fun _ _ => rfl)) (pe_ix ix_tup (pv 5) pe_int (fun _ _ => rfl)) (nomark _)))) pa_nil)))) (pss_one (ps_ret pe_bl)) pss_nil)
  (pss_one (ps_ret (pe_cmpR (op_eqQ hr.units) (pe_cal C_tidied hr (by rfl) (pa_cons (pe_callTy (cr_dictPT rfl hr.units) (by rfl) F.b_dict (by decide +kernel) (pa_cons (pv 2) pa_nil)) pa_nil)) (pv 2) (nomark _)))))))
theorem pure_is_measure_of (vs : List V) (H : Hp) (Q : VK) (E : XK) (h : sp_is_measure_of K T vs H Q E) : t_is_measure_of K T { nx := fun _ H' => Q .non H', rt := Q } (start n_is_measure_of vs) H := by
  obtain ⟨S, v, u, w, r, c, m, dom, rfl, hr, hc, hm, hx, ⟨m1, m2, m3, m4, m5, m6⟩, tb, q⟩ := h
  have s0 : Sg T (hd S H) S H := ⟨dom, .same⟩
  have gt : GT T (hd S H) := GT.of tb dom
  refine q_skip s0 (et_is (et_or (et_not (et_B (ev_isi true (ev_var rfl hm) (by decide +kernel)))) fun _ => et_not (et_test (ev_chain ev_int (ev_lenT (ev_var rfl hm)) ev_int))) ?_) fun H1 e1 => ?_
  · simp
    omega
  have s1 := s0.go e1
  have hr1 := hr.le (e1.hd dom)
  have hc1 := hc.le (e1.hd dom)
  have hm1 := hm.le (e1.hd dom)
  refine q_forT s1.up (ev_var rfl hm1) (fun H2 i σ' H' => ∃ o, σ' = [some v, some u, some w, o, none, none] ∧ Le T H2 H' ∧ Sg T (hd S H2) S H') (fun H2 e2 => ⟨none, rfl, .same, ⟨(s1.go e2).dom, .same⟩⟩) (fun H2 i σ' H' ⟨_, _, _, s'⟩ => ⟨S, s'⟩) ?_ ?_
  · rintro H2 i x vx σ' H' H'' e2 hi ⟨o, rfl, e', s'⟩ e3 rx
    have s3 := s'.go e3
    have rx' := rx S s'
    obtain ⟨k1, k2, k3⟩ := m3 x (List.mem_of_getElem? hi)
    have eA := (e2.trans e').trans e3
    have lA := eA.hd s1.dom
    refine q_skip s3.up (et_is (et_or (et_not (et_B (ev_isi true (ev_var rfl rx') (by decide +kernel)))) fun _ => et_or (et_test (ev_ne (ev_lenP (ev_var rfl rx')) ev_int)) fun _ => et_not (et_B (ev_call3 (ev_var rfl (hr1.le lA)) (ev_var rfl (hc1.le lA)) (ev_fst (ev_var rfl rx')) k1))) (by simp)) fun H5 e5 => ?_
    have s5 := s3.go e5
    have rx5 := rx'.le (e5.hd s3.dom)
    refine s_skip s5.up (et_is (et_or (et_not (et_B (ev_call1 (ev_snd (ev_var rfl rx5)) trivial))) fun _ => et_test (ev_cmp (ev_snd (ev_var rfl rx5)) ev_int)) (by simp; omega)) fun H6 e6 => ?_
    exact ⟨some vx, rfl, ((e'.trans e3).trans e5).trans e6, s5.go e6⟩
  · rintro H2 σ' H' e2 ⟨o, rfl, e', s'⟩
    have eA := e2.trans e'
    have s4 := s1.go eA
    have lA := (e1.trans eA).hd dom
    refine q_skip s4.up (et_is (et_not (et_B (ev_all (en_map (fun e : (Tup Int × Int) × (Tup Int × Int) => HT.lexLt e.1.1.items e.2.1.items) (sr_zipT (ev_var rfl (hm.le lA)) (ev_slT (ev_var rfl (hm.le lA)) (ep_some ev_int) ep_none)) tgm_pair (by rw [List.length_zip]; omega) fun x hx v' S' H' s rx => g_pair rx fun vx vy r1 r2 => ⟨rfl, rfl, ev_ltT (ev_fst (ev_var rfl r1)) (ev_fst (ev_var rfl r2))⟩).r))) (by rw [m4] <;> rfl)) fun H5 e5 => ?_
    have s5 := s4.go e5
    have l5 := ((e1.trans eA).trans e5).hd dom
    refine s_ret s5.up (ev_is (ev_eq (ev_callD (gt.le l5) (eo_dictP (ex_var rfl (hm.le l5) (hx.le l5))) m5) (ev_var rfl (hm.le l5))) ?_) fun y H6 e6 r6 => q _ _ (((e1.trans eA).trans e5).trans e6) r6
    exact decide_eq_true m6
theorem cal_is_measure_of {k : Nat} (D : At K mg "is_measure_of" s_is_measure_of) (F : Fx mg) (C_is_effect_of : Cal P w K mg base k "is_effect_of" ["rows", "columns", "value"] (sp_is_effect_of K T)) (C_is_int : Cal P w K mg base k "is_int" ["value"] (sp_is_int K T)) (C_tidied : Cal P w K mg base k "tidied" ["told"] (sp_tidied K T)) : Cal P w K mg base (k + 1) "is_measure_of" ["rows", "columns", "value"] (sp_is_measure_of K T) :=
  mk_cal D sc_is_measure_of (fun _ _ _ _ _ _ us hl => match us, hl with | [_, _, _], _ => rfl) (Pu3x.len rfl) (fun f cdv A outer s H E hr => der_is_measure_of F C_is_effect_of C_is_int C_tidied hr) (fun vs H Q E h => pure_is_measure_of vs H Q E h)
def okB (r c : Int) : Prop := 1 ≤ r ∧ r ≤ 12 ∧ 1 ≤ c ∧ c ≤ 12
def sp_need_measure (K : PySem.W.Frag) (T : List (Addr × Str)) : Sp := Pu3x T (fun r c m => okB r c ∧ okMeas r c m) fun (_ _ : Int) (_ : Meas) => ()
abbrev n_need_measure : List Str := ["rows", "columns", "value"]
theorem sc_need_measure : FnScope n_need_measure ["rows", "columns", "value"] (defScope s_need_measure) := ⟨rfl, rfl, rfl, by decide +kernel, rfl, by decide +kernel, by decide +kernel⟩
def t_need_measure (K : PySem.W.Frag) (T : List (Addr × Str)) : TS := (tSeq (tDrop (tCall (sp_need_board K T) [] E0 (tCons (tVar 0) (tCons (tVar 1) tNil))))
  (tIfS (tNot (tB (tCall (sp_is_measure_of K T) [] E0 (tCons (tVar 0) (tCons (tVar 1) (tCons (tVar 2) tNil)))))) tNever tNext))
theorem der_need_measure {k : Nat} {f : Addr} {cdv : Value} {A : Around} {outer : List Env} {s : Shared} {H : Hp} {E : XK} (F : Fx mg) (C_need_board : Cal P w K mg base k "need_board" ["rows", "columns"] (sp_need_board K T)) (C_is_measure_of : Cal P w K mg base k "is_measure_of" ["rows", "columns", "value"] (sp_is_measure_of K T)) (hr : Room k (A.deeper (envOfC "need_measure" (defScope s_need_measure) s.heap.objs.size f cdv))) :
    PSs (cxOf CX0 P w K mg base n_need_measure "need_measure" (defScope s_need_measure) f cdv A outer s H E).nox (defBody s_need_measure) (t_need_measure K T) :=
  (pss_cons (ps_expr (pe_cal C_need_board hr (by rfl) (pa_cons (pv 0) (pa_cons (pv 1) pa_nil))))
  (pss_one (ps_if (pt_not (pt_val (pe_cal C_is_measure_of hr (by rfl) (pa_cons (pv 0) (pa_cons (pv 1) (pa_cons (pv 2) pa_nil)))))) (pss_one ps_never) pss_nil)))
theorem pure_need_measure (vs : List V) (H : Hp) (Q : VK) (E : XK) (h : sp_need_measure K T vs H Q E) : t_need_measure K T { nx := fun _ H' => Q .non H', rt := Q } (start n_need_measure vs) H := by
  obtain ⟨S, v, u, w, r, c, m, dom, rfl, hr, hc, hm, hx, ⟨b, ok⟩, tb, q⟩ := h
  have s0 : Sg T (hd S H) S H := ⟨dom, .same⟩
  have gt : GT T (hd S H) := GT.of tb dom
  refine q_drop s0 (ev_call2 (ev_var rfl hr) (ev_var rfl hc) b) fun H1 e1 => ?_
  have l1 := e1.hd dom
  exact s_skip (s0.go e1).up (et_not (et_B (ev_call3x (gt.le l1) (ev_var rfl (hr.le l1)) (ev_var rfl (hc.le l1)) (ex_var rfl (hm.le l1) (hx.le l1)) ok))) fun H2 e2 => q _ _ (e1.trans e2) rep_non
theorem cal_need_measure {k : Nat} (D : At K mg "need_measure" s_need_measure) (F : Fx mg) (C_need_board : Cal P w K mg base k "need_board" ["rows", "columns"] (sp_need_board K T)) (C_is_measure_of : Cal P w K mg base k "is_measure_of" ["rows", "columns", "value"] (sp_is_measure_of K T)) : Cal P w K mg base (k + 1) "need_measure" ["rows", "columns", "value"] (sp_need_measure K T) :=
  mk_cal D sc_need_measure (fun _ _ _ _ _ _ us hl => match us, hl with | [_, _, _], _ => rfl) (Pu3x.len rfl) (fun f cdv A outer s H E hr => der_need_measure F C_need_board C_is_measure_of hr) (fun vs H Q E h => pure_need_measure vs H Q E h)
def sp_need_lines (K : PySem.W.Frag) (T : List (Addr × Str)) : Sp := Pu3x T (fun r c m => okB r c ∧ r + c ≤ 12 ∧ okMeas r c m) fun (_ _ : Int) (_ : Meas) => ()
abbrev n_need_lines : List Str := ["rows", "columns", "told"]
theorem sc_need_lines : FnScope n_need_lines ["rows", "columns", "told"] (defScope s_need_lines) := ⟨rfl, rfl, rfl, by decide +kernel, rfl, by decide +kernel, by decide +kernel⟩
def t_need_lines (K : PySem.W.Frag) (T : List (Addr × Str)) : TS := (tSeq (tDrop (tCall (sp_need_board K T) [] E0 (tCons (tVar 0) (tCons (tVar 1) tNil))))
  (tSeq (tIfS (tTest (tOp (rI0 fun i j => .bl (decide (j < i))) (tOp (rI0 fun i j => .int (i + j)) (tVar 0) (tVar 1)) (tC (.int 12)))) tNever tNext)
  (tDrop (tCall (sp_need_measure K T) [] E0 (tCons (tVar 0) (tCons (tVar 1) (tCons (tVar 2) tNil)))))))
theorem der_need_lines {k : Nat} {f : Addr} {cdv : Value} {A : Around} {outer : List Env} {s : Shared} {H : Hp} {E : XK} (F : Fx mg) (C_need_board : Cal P w K mg base k "need_board" ["rows", "columns"] (sp_need_board K T)) (C_need_measure : Cal P w K mg base k "need_measure" ["rows", "columns", "value"] (sp_need_measure K T)) (hr : Room k (A.deeper (envOfC "need_lines" (defScope s_need_lines) s.heap.objs.size f cdv))) :
    PSs (cxOf CX0 P w K mg base n_need_lines "need_lines" (defScope s_need_lines) f cdv A outer s H E).nox (defBody s_need_lines) (t_need_lines K T) :=
  (pss_cons (ps_expr (pe_cal C_need_board hr (by rfl) (pa_cons (pv 0) (pa_cons (pv 1) pa_nil))))
  (pss_cons (ps_if (pt_cmpR (op_gt) (pe_op op_add (pv 0) (pv 1)) (C8.pe_gc (by rfl) F.c_MOST_LINES) (nomark _)) (pss_one ps_never) pss_nil)
  (pss_one (ps_expr (pe_cal C_need_measure hr (by rfl) (pa_cons (pv 0) (pa_cons (pv 1) (pa_cons (pv 2) pa_nil))))))))
theorem pure_need_lines (vs : List V) (H : Hp) (Q : VK) (E : XK) (h : sp_need_lines K T vs H Q E) : t_need_lines K T { nx := fun _ H' => Q .non H', rt := Q } (start n_need_lines vs) H := by
  obtain ⟨S, v, u, w, r, c, m, dom, rfl, hr, hc, hm, hx, ⟨b, b2, ok⟩, tb, q⟩ := h
  have s0 : Sg T (hd S H) S H := ⟨dom, .same⟩
  have gt : GT T (hd S H) := GT.of tb dom
  refine q_drop s0 (ev_call2 (ev_var rfl hr) (ev_var rfl hc) b) fun H1 e1 => ?_
  have l1 := e1.hd dom
  refine q_skip (s0.go e1).up (et_is (et_test (ev_cmp (ev_opI0 (ev_var rfl (hr.le l1)) (ev_var rfl (hc.le l1))) ev_int)) (decide_eq_false (by omega))) fun H2 e2 => ?_
  have l2 := (e1.trans e2).hd dom
  exact s_drop ((s0.go e1).go e2).up (ev_call3x (gt.le l2) (ev_var rfl (hr.le l2)) (ev_var rfl (hc.le l2)) (ex_var rfl (hm.le l2) (hx.le l2)) ⟨b, ok⟩) fun H3 e3 => q _ _ ((e1.trans e2).trans e3) rep_non
theorem cal_need_lines {k : Nat} (D : At K mg "need_lines" s_need_lines) (F : Fx mg) (C_need_board : Cal P w K mg base k "need_board" ["rows", "columns"] (sp_need_board K T)) (C_need_measure : Cal P w K mg base k "need_measure" ["rows", "columns", "value"] (sp_need_measure K T)) : Cal P w K mg base (k + 1) "need_lines" ["rows", "columns", "told"] (sp_need_lines K T) :=
  mk_cal D sc_need_lines (fun _ _ _ _ _ _ us hl => match us, hl with | [_, _, _], _ => rfl) (Pu3x.len rfl) (fun f cdv A outer s H E hr => der_need_lines F C_need_board C_need_measure hr) (fun vs H Q E h => pure_need_lines vs H Q E h)
end K4
end
section
set_option Elab.async false
set_option linter.all false
set_option maxRecDepth 100000
set_option maxHeartbeats 4000000
namespace K4
open PySem PySem.Spec PyProof.Rows L2 PySem.W
variable {P : Program} {w : World} {K : PySem.W.Frag} {mg : Str → Option Value} {base : Heap} {T : List (Addr × Str)}

def joinStep (r c : Int) (f : List (Tup Int × Bool)) (one : Tup Int) : List (Tup Int × Bool) :=
  (f.map (·.1)).foldl (fun f each => putD f (mSupport r c (each.items ++ (mSupport r c one.items).items)) true) f
def joinsN (r c : Int) (ones : List (Tup Int)) : List (Tup Int × Bool) := ones.foldl (joinStep r c) [(Tup.mk [], true)]
def mJoins (r c : Int) (m : Meas) : List (Tup Int) := (lsort ((joinsN r c (m.items.map (·.1))).map fun e => e.1.items)).map Tup.mk
def okJoins (r c : Int) (m : Meas) : Prop := 0 ≤ r ∧ r ≤ 12 ∧ 0 ≤ c ∧ c ≤ 12 ∧ m.items.length ≤ 500 ∧ (∀ e ∈ m.items, e.1.items.length ≤ 24 ∧ (mSupport r c e.1.items).items.length ≤ 30) ∧ ∀ i, (joinsN r c ((m.items.map (·.1)).take i)).length ≤ 500 ∧ ∀ e ∈ joinsN r c ((m.items.map (·.1)).take i), e.1.items.length ≤ 30
theorem support_len {r c : Int} {xs : List Int} (h1 : 0 ≤ r) (h2 : r ≤ 12) (h3 : 0 ≤ c) (h4 : c ≤ 12) : (mSupport r c xs).items.length ≤ xs.length + 24 := by
  unfold mSupport
  have := usort_len xs
  split
  · show (rng 0 (r + c).toNat).length ≤ _
    rw [rng_len]
    omega
  · show (usort xs).length ≤ _
    omega
def okWithin (r c : Int) (m : Meas) (lines : List Int) : Prop := 0 ≤ r ∧ r ≤ 12 ∧ 0 ≤ c ∧ c ≤ 12 ∧ m.items.length ≤ 500 ∧ (∀ e ∈ m.items, e.1.items.length ≤ 24) ∧ lines.length ≤ 60 ∧ 0 < mWeight m ∧ mWeight m < 4611686018427387904
def mWithin (r c : Int) (m : Meas) (lines : List Int) : Int × Int :=
  mFr ((m.items.filter fun e => ((mSupport r c e.1.items).items.map fun l => (getD' (keysD lines) l).isSome).all id).map (·.2)).sum (mWeight m)
def sp_within_of (K : PySem.W.Frag) (T : List (Addr × Str)) : Sp := Pu4s T okWithin mWithin
abbrev n_within_of : List Str := ["rows", "columns", "told", "lines", "some", "good", "line", "one", "weight"]
theorem sc_within_of : FnScope n_within_of ["rows", "columns", "told", "lines"] (defScope s_within_of) := ⟨rfl, rfl, rfl, by decide +kernel, rfl, by decide +kernel, by decide +kernel⟩
def t_within_of (K : PySem.W.Frag) (T : List (Addr × Str)) : TS := (tSeq (tAsg (tDc (iSeq K (tVar 3)) (gName 6) tYes (tVar 6) (tC (.bl true)) [6]) (gName 4))
  (tSeq (tAsg (tLc (iTup K (tVar 2)) (gTup K 2 (gCons (gName 7) (gCons (gName 8) gNil))) (tB (tCB (rAll K) (tCons (tLc (iTup K (tCall (sp_support_of K T) [] E0 (tCons (tVar 0) (tCons (tVar 1) (tCons (tVar 7) tNil))))) (gName 6) tYes (tDIn (tVar 6) (tVar 4)) [6]) tNil))) (tVar 8) [7, 8]) (gName 5))
  (tRet (tCall (sp_lowered K T) [] E0 (tCons (tCB (rSum K) (tCons (tVar 5) tNil)) (tCons (tCall (sp_weight_of K T) [] E0 (tCons (tVar 2) tNil)) tNil))))))
theorem der_within_of {k : Nat} {f : Addr} {cdv : Value} {A : Around} {outer : List Env} {s : Shared} {H : Hp} {E : XK} (F : Fx mg) (C_support_of : Cal P w K mg base k "support_of" ["rows", "columns", "lines"] (sp_support_of K T)) (C_weight_of : Cal P w K mg base k "weight_of" ["told"] (sp_weight_of K T)) (C_lowered : Cal P w K mg base k "lowered" ["above", "low"] (sp_lowered K T)) (hr : Room k (A.deeper (envOfC "within_of" (defScope s_within_of) s.heap.objs.size f cdv))) :
    PSs (cxOf CX0 P w K mg base n_within_of "within_of" (defScope s_within_of) f cdv A outer s H E).nox (defBody s_within_of) (t_within_of K T) :=
  (pss_cons (ps_set (i := 4) sc_within_of.nd rfl (.inr rfl) (pe_dc (own := [("line", 6)]) (g := (gName 6)) (tt := tYes) rfl sc_within_of.nd (pi_seq (pv 3)) (blkOk_by (own := [("line", 6)]) (N := n_within_of) (sc := defScope s_within_of) (by decide +kernel)) (fun _ _ _ _ _ => (pg_name (i := 6) sc_within_of.nd rfl (.inl rfl))) (fun _ _ _ _ _ => pts_nil) (fun _ _ _ _ _ => (pv 6)) (fun _ _ _ _ _ => pe_bl)))
  (pss_cons (ps_setLc (i := 5) (own := [("one", 7), ("weight", 8)]) (g := (gTup K 2 (gCons (gName 7) (gCons (gName 8) gNil)))) (tt := (tB (tCB (rAll K) (tCons (tLc (iTup K (tCall (sp_support_of K T) [] E0 (tCons (tVar 0) (tCons (tVar 1) (tCons (tVar 7) tNil))))) (gName 6) tYes (tDIn (tVar 6) (tVar 4)) [6]) tNil)))) rfl sc_within_of.nd rfl rfl (sw_true rfl rfl rfl (by decide +kernel)) (pi_tup (pv 2)) (blkOk_by (own := [("one", 7), ("weight", 8)]) (N := n_within_of) (sc := defScope s_within_of) (by decide +kernel)) (fun _ _ _ _ _ => (pg_tup rfl (pgs_cons (pg_name (i := 7) sc_within_of.nd rfl (.inl rfl)) (pgs_cons (pg_name (i := 8) sc_within_of.nd rfl (.inl rfl)) pgs_nil)))) (fun _ _ _ _ _ => (pts_one (pt_val (pe_callB (cr_all rfl) (by rfl) F.b_all (by decide +kernel) (pa_cons (pe_lc (own := [("line", 6)]) (g := (gName 6)) (tt := tYes) rfl sc_within_of.nd (pi_tup (pe_cal C_support_of hr (by rfl) (pa_cons (pv 0) (pa_cons (pv 1) (pa_cons (pv 7) pa_nil))))) (blkOk_by (own := [("line", 6)]) (N := n_within_of) (by rfl)) (fun _ _ _ _ _ => (pg_name (i := 6) sc_within_of.nd rfl (.inl rfl))) (fun _ _ _ _ _ => pts_nil) (fun _ _ _ _ _ => (pe_cmp (pc_din (hu1 hr) (pv 6) (pv 4)) (by rfl)))) pa_nil))))) (fun _ _ _ _ _ => (pv 8)))
  (pss_one (ps_ret (pe_cal C_lowered hr (by rfl) (pa_cons (pe_callB (cr_sum rfl) (by rfl) F.b_sum (by decide +kernel) (pa_cons (pv 5) pa_nil)) (pa_cons (pe_cal C_weight_of hr (by rfl) (pa_cons (pv 2) pa_nil)) pa_nil)))))))
theorem pure_within_of (vs : List V) (H : Hp) (Q : VK) (E : XK) (h : sp_within_of K T vs H Q E) : t_within_of K T { nx := fun _ H' => Q .non H', rt := Q } (start n_within_of vs) H := by
  obtain ⟨S, v, u, w, t, r, c, m, lines, dom, rfl, hr, hc, hm, hl, ⟨r1, r2, c1, c2, m1, m2, l1, w1, w2⟩, q⟩ := h
  have s0 : Sg T (hd S H) S H := ⟨dom, .same⟩
  have hk := keysD_len lines
  refine q_asgO s0 (o := .dK ((keysD lines).map kI)) (eo_dcI (f := fun x => x) (w := fun _ => true) (sr_seq rfl hl) tgm_name (by omega) fun x _ v' S' H' s rx => ⟨rfl, rfl, et_yes, ev_var rfl rx, ev_bl⟩) fun d H1 nd e1 le1 hd1 => ?_
  have s1 := s0.go e1
  have lA := e1.hd dom
  have hD : IsDI (hd S H1) d (keysD lines) := by
    show hd S H1 d = _
    rw [hd_out nd]
    exact hd1
  refine q_asg s1.up (en_lc (fun e : Tup Int × Int => ((mSupport r c e.1.items).items.map fun l => (getD' (keysD lines) l).isSome).all id) (fun e => e.2) (sr_tup (ev_var rfl (hm.le lA))) tgm_pair (by omega) fun x hx v' S' H' s rx => g_pair rx fun vx vy rx1 rx2 => ⟨rfl, rfl, et_B (ev_all (en_map (fun l => (getD' (keysD lines) l).isSome) (sr_tup (ev_call3s (ev_var rfl ((hr.le lA).le s.le)) (ev_var rfl ((hc.le lA).le s.le)) (es_tup (ev_var rfl rx1)) ⟨r1, r2, c1, c2, by have := m2 x hx; omega⟩)) tgm_name (by
      have := support_len (xs := x.1.items) r1 r2 c1 c2
      have := m2 x hx
      omega) fun l hl' v2 S2 H2 s2 rl => ⟨rfl, rfl, ev_dinI (ev_var rfl rl) rfl (s2.le.soft (s.le.soft hD trivial) trivial)⟩).r), fun _ => ev_var rfl rx2⟩).r fun v5 H2 e2 r5 => ?_
  have lB := (e1.trans e2).hd dom
  exact s_ret (s1.go e2).up (ev_call2 (ev_sum (ev_var rfl r5)) (ev_call1 (ev_var rfl (hm.le lB)) (by omega)) ⟨w1, w2⟩) fun y H3 e3 r3 => q _ _ ((e1.trans e2).trans e3) r3
theorem cal_within_of {k : Nat} (D : At K mg "within_of" s_within_of) (F : Fx mg) (C_support_of : Cal P w K mg base k "support_of" ["rows", "columns", "lines"] (sp_support_of K T)) (C_weight_of : Cal P w K mg base k "weight_of" ["told"] (sp_weight_of K T)) (C_lowered : Cal P w K mg base k "lowered" ["above", "low"] (sp_lowered K T)) : Cal P w K mg base (k + 1) "within_of" ["rows", "columns", "told", "lines"] (sp_within_of K T) :=
  mk_cal D sc_within_of (fun _ _ _ _ _ _ us hl => match us, hl with | [_, _, _, _], _ => rfl) (Pu4s.len rfl) (fun f cdv A outer s H E hr => der_within_of F C_support_of C_weight_of C_lowered hr) (fun vs H Q E h => pure_within_of vs H Q E h)
def mLWithin (r c : Int) (m : Meas) (lines : Tup Int) : Int × Int :=
  mFr ((m.items.filter fun e => decide (((mSupport r c e.1.items).items.filter fun l => !decide (l ∈ lines.items)) = [])).map (·.2)).sum (mWeight m)
def sp_law_within (K : PySem.W.Frag) (T : List (Addr × Str)) : Sp := Pu4 T (fun r c m (l : Tup Int) => okWithin r c m l.items) mLWithin
abbrev n_law_within : List Str := ["_law_high", "_law_wide", "_law_told", "_law_lines", "_law_good", "_law_one", "_law_weight", "_law_line"]
theorem sc_law_within : FnScope n_law_within ["_law_high", "_law_wide", "_law_told", "_law_lines"] (defScope s_law_within) := ⟨rfl, rfl, rfl, by decide +kernel, rfl, by decide +kernel, by decide +kernel⟩
def t_law_within (K : PySem.W.Frag) (T : List (Addr × Str)) : TS := (tSeq (tAsg (tLc (iTup K (tVar 2)) (gTup K 2 (gCons (gName 5) (gCons (gName 6) gNil))) (tTest (tOp (rEqQ (List Int)) (tLc (iTup K (tCall (sp_law_support K T) [] E0 (tCons (tVar 0) (tCons (tVar 1) (tCons (tVar 5) tNil))))) (gName 7) (tTest (tOp (rIn K true) (tVar 7) (tVar 3))) (tVar 7) [7]) (tLst tNil))) (tVar 6) [5, 6]) (gName 4))
  (tRet (tCall (sp_law_share K T) [] E0 (tCons (tCB (rSum K) (tCons (tVar 4) tNil)) (tCons (tCall (sp_law_whole K T) [] E0 (tCons (tVar 2) tNil)) tNil)))))
theorem der_law_within {k : Nat} {f : Addr} {cdv : Value} {A : Around} {outer : List Env} {s : Shared} {H : Hp} {E : XK} (F : Fx mg) (C_law_support : Cal P w K mg base k "_law_support" ["_law_high", "_law_wide", "_law_lines"] (sp_law_support K T)) (C_law_whole : Cal P w K mg base k "_law_whole" ["_law_told"] (sp_law_whole K T)) (C_law_share : Cal P w K mg base k "_law_share" ["_law_above", "_law_low"] (sp_law_share K T)) (hr : Room k (A.deeper (envOfC "_law_within" (defScope s_law_within) s.heap.objs.size f cdv))) :
    PSs (cxOf CX0 P w K mg base n_law_within "_law_within" (defScope s_law_within) f cdv A outer s H E).nox (defBody s_law_within) (t_law_within K T) :=
  (pss_cons (ps_setLc (i := 4) (own := [("_law_one", 5), ("_law_weight", 6)]) (g := (gTup K 2 (gCons (gName 5) (gCons (gName 6) gNil)))) (tt := (tTest (tOp (rEqQ (List Int)) (tLc (iTup K (tCall (sp_law_support K T) [] E0 (tCons (tVar 0) (tCons (tVar 1) (tCons (tVar 5) tNil))))) (gName 7) (tTest (tOp (rIn K true) (tVar 7) (tVar 3))) (tVar 7) [7]) (tLst tNil)))) rfl sc_law_within.nd rfl rfl (sw_true rfl rfl rfl (by decide +kernel)) (pi_tup (pv 2)) (blkOk_by (own := [("_law_one", 5), ("_law_weight", 6)]) (N := n_law_within) (sc := defScope s_law_within) (by decide +kernel)) (fun _ _ _ _ _ => (pg_tup rfl (pgs_cons (pg_name (i := 5) sc_law_within.nd rfl (.inl rfl)) (pgs_cons (pg_name (i := 6) sc_law_within.nd rfl (.inl rfl)) pgs_nil)))) (fun _ _ _ _ _ => (pts_one (pt_cmpR (op_eqQ hr.units) (pe_lc (own := [("_law_line", 7)]) (g := (gName 7)) (tt := (tTest (tOp (rIn K true) (tVar 7) (tVar 3)))) rfl sc_law_within.nd (pi_tup (pe_cal C_law_support hr (by rfl) (pa_cons (pv 0) (pa_cons (pv 1) (pa_cons (pv 5) pa_nil))))) (blkOk_by (own := [("_law_line", 7)]) (N := n_law_within) (by rfl)) (fun _ _ _ _ _ => (pg_name (i := 7) sc_law_within.nd rfl (.inl rfl))) (fun _ _ _ _ _ => (pts_one (pt_cmpR (op_notIn_seq) (pv 7) (pv 3) (by rfl)))) (fun _ _ _ _ _ => (pv 7))) (pe_lst pa_nil) (nomark _)))) (fun _ _ _ _ _ => (pv 6)))
  (pss_one (ps_ret (pe_cal C_law_share hr (by rfl) (pa_cons (pe_callB (cr_sum rfl) (by rfl) F.b_sum (by decide +kernel) (pa_cons (pv 4) pa_nil)) (pa_cons (pe_cal C_law_whole hr (by rfl) (pa_cons (pv 2) pa_nil)) pa_nil))))))
theorem pure_law_within (vs : List V) (H : Hp) (Q : VK) (E : XK) (h : sp_law_within K T vs H Q E) : t_law_within K T { nx := fun _ H' => Q .non H', rt := Q } (start n_law_within vs) H := by
  obtain ⟨S, v, u, w, t, r, c, m, lines, dom, rfl, hr, hc, hm, hl, ⟨r1, r2, c1, c2, m1, m2, l1, w1, w2⟩, q⟩ := h
  have s0 : Sg T (hd S H) S H := ⟨dom, .same⟩
  refine q_asg s0 (en_lc (fun e : Tup Int × Int => decide (((mSupport r c e.1.items).items.filter fun l => !decide (l ∈ lines.items)) = [])) (fun e => e.2) (sr_tup (ev_var rfl hm)) tgm_pair (by omega) fun x hx v' S' H' s rx => g_pair rx fun vx vy rx1 rx2 => ⟨rfl, rfl, et_test (ev_eq (ev_is (en_lc (fun l => !decide (l ∈ lines.items)) (fun l => l) (sr_tup (ev_call3s (ev_var rfl (hr.le s.le)) (ev_var rfl (hc.le s.le)) (es_tup (ev_var rfl rx1)) ⟨r1, r2, c1, c2, by have := m2 x hx; omega⟩)) tgm_name (by
      have := support_len (xs := x.1.items) r1 r2 c1 c2
      have := m2 x hx
      omega) fun l hl' v2 S2 H2 s2 rl => ⟨rfl, rfl, et_test (ev_inT (neg := true) (ev_var rfl rl) (ev_var rfl ((hl.le s.le).le s2.le))), fun _ => ev_var rfl rl⟩).r (by rw [List.map_id'])) (en_lst eas_nil (by decide)).r), fun _ => ev_var rfl rx2⟩).r fun v5 H2 e2 r5 => ?_
  have lB := e2.hd dom
  exact s_ret (s0.go e2).up (ev_call2 (ev_sum (ev_var rfl r5)) (ev_call1 (ev_var rfl (hm.le lB)) (by omega)) ⟨w1, w2⟩) fun y H3 e3 r3 => q _ _ (e2.trans e3) r3
theorem cal_law_within {k : Nat} (D : At K mg "_law_within" s_law_within) (F : Fx mg) (C_law_support : Cal P w K mg base k "_law_support" ["_law_high", "_law_wide", "_law_lines"] (sp_law_support K T)) (C_law_whole : Cal P w K mg base k "_law_whole" ["_law_told"] (sp_law_whole K T)) (C_law_share : Cal P w K mg base k "_law_share" ["_law_above", "_law_low"] (sp_law_share K T)) : Cal P w K mg base (k + 1) "_law_within" ["_law_high", "_law_wide", "_law_told", "_law_lines"] (sp_law_within K T) :=
  mk_cal D sc_law_within (fun _ _ _ _ _ _ us hl => match us, hl with | [_, _, _, _], _ => rfl) (Pu4.len rfl) (fun f cdv A outer s H E hr => der_law_within F C_law_support C_law_whole C_law_share hr) (fun vs H Q E h => pure_law_within vs H Q E h)
def sp_value_of (K : PySem.W.Frag) (T : List (Addr × Str)) : Sp := Pu4x T (fun r c m (l : List Int) => okB r c ∧ okMeas r c m ∧ l.length ≤ 30 ∧ mStrokes r c l = true ∧ okWithin r c m (mSupport r c l).items) fun r c m l => mWithin r c m (mSupport r c l).items
abbrev n_value_of : List Str := ["rows", "columns", "told", "strokes"]
theorem sc_value_of : FnScope n_value_of ["rows", "columns", "told", "strokes"] (defScope s_value_of) := ⟨rfl, rfl, rfl, by decide +kernel, rfl, by decide +kernel, by decide +kernel⟩
def t_value_of (K : PySem.W.Frag) (T : List (Addr × Str)) : TS := (tSeq (tDrop (tCall (sp_need_measure K T) [] E0 (tCons (tVar 0) (tCons (tVar 1) (tCons (tVar 2) tNil)))))
  (tSeq (tDrop (tCall (sp_need_strokes K T) [] E0 (tCons (tVar 0) (tCons (tVar 1) (tCons (tVar 3) tNil)))))
  (tRet (tCall (sp_within_of K T) [] E0 (tCons (tVar 0) (tCons (tVar 1) (tCons (tVar 2) (tCons (tCall (sp_support_of K T) [] E0 (tCons (tVar 0) (tCons (tVar 1) (tCons (tVar 3) tNil)))) tNil))))))))
theorem der_value_of {k : Nat} {f : Addr} {cdv : Value} {A : Around} {outer : List Env} {s : Shared} {H : Hp} {E : XK} (F : Fx mg) (C_need_measure : Cal P w K mg base k "need_measure" ["rows", "columns", "value"] (sp_need_measure K T)) (C_need_strokes : Cal P w K mg base k "need_strokes" ["rows", "columns", "value"] (sp_need_strokes K T)) (C_support_of : Cal P w K mg base k "support_of" ["rows", "columns", "lines"] (sp_support_of K T)) (C_within_of : Cal P w K mg base k "within_of" ["rows", "columns", "told", "lines"] (sp_within_of K T)) (hr : Room k (A.deeper (envOfC "value_of" (defScope s_value_of) s.heap.objs.size f cdv))) :
    PSs (cxOf CX0 P w K mg base n_value_of "value_of" (defScope s_value_of) f cdv A outer s H E).nox (defBody s_value_of) (t_value_of K T) :=
  (pss_cons (ps_expr (pe_cal C_need_measure hr (by rfl) (pa_cons (pv 0) (pa_cons (pv 1) (pa_cons (pv 2) pa_nil)))))
  (pss_cons (ps_expr (pe_cal C_need_strokes hr (by rfl) (pa_cons (pv 0) (pa_cons (pv 1) (pa_cons (pv 3) pa_nil)))))
  (pss_one (ps_ret (pe_cal C_within_of hr (by rfl) (pa_cons (pv 0) (pa_cons (pv 1) (pa_cons (pv 2) (pa_cons (pe_cal C_support_of hr (by rfl) (pa_cons (pv 0) (pa_cons (pv 1) (pa_cons (pv 3) pa_nil)))) pa_nil)))))))))
theorem pure_value_of (vs : List V) (H : Hp) (Q : VK) (E : XK) (h : sp_value_of K T vs H Q E) : t_value_of K T { nx := fun _ H' => Q .non H', rt := Q } (start n_value_of vs) H := by
  obtain ⟨S, v, u, w, t, r, c, m, l, dom, rfl, hr, hc, hm, hl, hx, ⟨b, ok, l1, l2, ow⟩, tb, q⟩ := h
  have s0 : Sg T (hd S H) S H := ⟨dom, .same⟩
  have gt : GT T (hd S H) := GT.of tb dom
  obtain ⟨b1, b2, b3, b4⟩ := b
  refine q_drop s0 (ev_call3x gt (ev_var rfl hr) (ev_var rfl hc) (ex_var rfl hm hx) ⟨⟨b1, b2, b3, b4⟩, ok⟩) fun H1 e1 => ?_
  have k1 := e1.hd dom
  refine q_drop (s0.go e1).up (ev_call3 (ev_var rfl (hr.le k1)) (ev_var rfl (hc.le k1)) (ev_var rfl (hl.le k1)) ⟨by omega, l2⟩) fun H2 e2 => ?_
  have k2 := (e1.trans e2).hd dom
  exact s_ret ((s0.go e1).go e2).up (ev_call4s (ev_var rfl (hr.le k2)) (ev_var rfl (hc.le k2)) (ev_var rfl (hm.le k2)) (es_tup (ev_call3s (ev_var rfl (hr.le k2)) (ev_var rfl (hc.le k2)) (es_list (ev_var rfl (hl.le k2))) ⟨by omega, b2, by omega, b4, by omega⟩)) ow) fun y H3 e3 r3 => q _ _ ((e1.trans e2).trans e3) r3
theorem cal_value_of {k : Nat} (D : At K mg "value_of" s_value_of) (F : Fx mg) (C_need_measure : Cal P w K mg base k "need_measure" ["rows", "columns", "value"] (sp_need_measure K T)) (C_need_strokes : Cal P w K mg base k "need_strokes" ["rows", "columns", "value"] (sp_need_strokes K T)) (C_support_of : Cal P w K mg base k "support_of" ["rows", "columns", "lines"] (sp_support_of K T)) (C_within_of : Cal P w K mg base k "within_of" ["rows", "columns", "told", "lines"] (sp_within_of K T)) : Cal P w K mg base (k + 1) "value_of" ["rows", "columns", "told", "strokes"] (sp_value_of K T) :=
  mk_cal D sc_value_of (fun _ _ _ _ _ _ us hl => match us, hl with | [_, _, _, _], _ => rfl) (Pu4x.len rfl) (fun f cdv A outer s H E hr => der_value_of F C_need_measure C_need_strokes C_support_of C_within_of hr) (fun vs H Q E h => pure_value_of vs H Q E h)
end K4
end
section
set_option Elab.async false
set_option linter.all false
set_option maxRecDepth 100000
set_option maxHeartbeats 4000000
namespace K4
open PySem PySem.Spec PyProof.Rows L2 PySem.W
variable {P : Program} {w : World} {K : PySem.W.Frag} {mg : Str → Option Value} {base : Heap} {T : List (Addr × Str)}

def sp_joins_of (K : PySem.W.Frag) (T : List (Addr × Str)) : Sp := Pu3 T okJoins mJoins
abbrev n_joins_of : List Str := ["rows", "columns", "told", "found", "one", "weight", "some", "each"]
theorem sc_joins_of : FnScope n_joins_of ["rows", "columns", "told"] (defScope s_joins_of) := ⟨rfl, rfl, rfl, by decide +kernel, rfl, by decide +kernel, by decide +kernel⟩
def t_joins_of (K : PySem.W.Frag) (T : List (Addr × Str)) : TS := (tSeq (tAsg (tDispT (tTup tNil) (tC (.bl true))) (gName 3))
  (tSeq (tFor (iTup K (tVar 2)) (gTup K 2 (gCons (gName 4) (gCons (gName 5) gNil)))
   (tSeq (tAsg (tCall (sp_support_of K T) [] E0 (tCons (tVar 0) (tCons (tVar 1) (tCons (tVar 4) tNil)))) (gName 6))
  (tSeq (tFor (iList K (tCB rListDT (tCons (tVar 3) tNil))) (gName 7)
   (sDPut (tVar 3) (tCall (sp_support_of K T) [] E0 (tCons (tVar 0) (tCons (tVar 1) (tCons (tLst (StX.tStar K (tVar 7) (StX.tStar K (tVar 6) tNil))) tNil)))) (tC (.bl true))))
  (tIfS (tTest (tOp (rI0 fun i j => .bl (decide (j < i))) (tCB rLenT (tCons (tVar 3) tNil)) (tC (.int 500)))) tNever tNext))))
  (tRet (tCB rSortDT (tCons (tVar 3) tNil)))))
theorem der_joins_of {k : Nat} {f : Addr} {cdv : Value} {A : Around} {outer : List Env} {s : Shared} {H : Hp} {E : XK} (F : Fx mg) (C_support_of : Cal P w K mg base k "support_of" ["rows", "columns", "lines"] (sp_support_of K T)) (hr : Room k (A.deeper (envOfC "joins_of" (defScope s_joins_of) s.heap.objs.size f cdv))) :
    PSs (cxOf CX0 P w K mg base n_joins_of "joins_of" (defScope s_joins_of) f cdv A outer s H E).nox (defBody s_joins_of) (t_joins_of K T) :=
  (pss_cons (ps_set (i := 3) sc_joins_of.nd rfl (.inl rfl) (pe_dispT (hu1 hr) (pe_tup pa_nil) pe_bl))
  (pss_cons (ps_for PassesOwn.never rfl (pi_tup (pv 2)) (pg_tup rfl (pgs_cons (pg_name (i := 4) sc_joins_of.nd rfl (.inl rfl)) (pgs_cons (pg_name (i := 5) sc_joins_of.nd rfl (.inl rfl)) pgs_nil)))
   (pss_cons (ps_set (i := 6) sc_joins_of.nd rfl (.inl rfl) (pe_cal C_support_of hr (by rfl) (pa_cons (pv 0) (pa_cons (pv 1) (pa_cons (pv 4) pa_nil)))))
  (pss_cons (ps_for PassesOwn.never rfl (pi_list (pe_callTy (call_list_dT rfl) (by rfl) F.b_list (by decide +kernel) (pa_cons (pv 3) pa_nil))) (pg_name (i := 7) sc_joins_of.nd rfl (.inl rfl))
   (pss_one (ps_dput (hu1 hr) (pv 3) (pe_cal C_support_of hr (by rfl) (pa_cons (pv 0) (pa_cons (pv 1) (pa_cons (pe_lst (StX.pa_star (pv 7) (StX.pa_star (pv 6) pa_nil))) pa_nil)))) pe_bl rfl)))
  (pss_one (ps_if (pt_cmpR (op_gt) (pe_callB call_len_dT (by rfl) F.b_len (by decide +kernel) (pa_cons (pv 3) pa_nil)) (C8.pe_gc (by rfl) F.c_MOST_LISTED) (nomark _)) (pss_one ps_never) pss_nil)))))
  (pss_one (ps_ret (pe_callB (cr_sortDT rfl hr.units) (by rfl) F.b_sorted (by decide +kernel) (pa_cons (pv 3) pa_nil))))))
def oD {α β : Type} [DecidableEq α] [Datum α] [KeyL α] [DecidableEq β] [Datum β] [AtV β] (m : List (α × β)) : HO := .dT (m.map kE)
theorem joinStep_foldl (r c : Int) (one : Tup Int) : ∀ (ks : List (Tup Int)) (f : List (Tup Int × Bool)), (ks.foldl (fun f each => putD f (mSupport r c (each.items ++ (mSupport r c one.items).items)) true) f).length ≤ f.length + ks.length
  | [], f => by simp
  | k :: ks, f => by
    have h1 := joinStep_foldl r c one ks (putD f (mSupport r c (k.items ++ (mSupport r c one.items).items)) true)
    have h2 := putD_len f (mSupport r c (k.items ++ (mSupport r c one.items).items)) true
    simp only [List.foldl_cons, List.length_cons]
    omega
def jN (r c : Int) (m : Meas) (i : Nat) : List (Tup Int × Bool) := joinsN r c ((m.items.map (·.1)).take i)
def jIn (r c : Int) (x : Tup Int) (f : List (Tup Int × Bool)) (j : Nat) : List (Tup Int × Bool) := ((f.map (·.1)).take j).foldl (fun f each => putD f (mSupport r c (each.items ++ (mSupport r c x.items).items)) true) f
theorem jIn_succ {r c : Int} {x y : Tup Int} {f : List (Tup Int × Bool)} {j : Nat} (h : (f.map (·.1))[j]? = some y) : jIn r c x f (j + 1) = putD (jIn r c x f j) (mSupport r c (y.items ++ (mSupport r c x.items).items)) true := by
  unfold jIn
  rw [List.take_add_one, h, List.foldl_append] <;> rfl
theorem jIn_all {r c : Int} {x : Tup Int} {f : List (Tup Int × Bool)} : jIn r c x f (f.map (·.1)).length = joinStep r c f x := by
  unfold jIn
  rw [List.take_length] <;> rfl
theorem jIn_len (r c : Int) (x : Tup Int) (f : List (Tup Int × Bool)) (j : Nat) : (jIn r c x f j).length ≤ f.length + f.length := by
  have h1 := joinStep_foldl r c x ((f.map (·.1)).take j) f
  have h2 : ((f.map (·.1)).take j).length ≤ f.length := by
    rw [List.length_take, List.length_map]; omega
  unfold jIn
  omega
theorem pure_joins_of (vs : List V) (H : Hp) (Q : VK) (E : XK) (h : sp_joins_of K T vs H Q E) : t_joins_of K T { nx := fun _ H' => Q .non H', rt := Q } (start n_joins_of vs) H := by
  obtain ⟨S, v, u, w, r, c, m, dom, rfl, hr, hc, hm, ⟨r1, r2, c1, c2, ml, mk, jk⟩, q⟩ := h
  have s0 : Sg T (hd S H) S H := ⟨dom, .same⟩
  refine q_asgO s0 (eo_dispT (x := (Tup.mk [] : Tup Int)) (y := true) (ev_tupN eas_nil (by decide)) ev_bl) fun p H1 np e1 eh hp => ?_
  have n1 := MS.init (T := T) dom .same np e1 eh hp trivial
  have l1 := e1.hd dom
  refine q_forT n1.s.up (ev_var rfl (hm.le eh)) (fun H2 i σ' H' => ∃ o4 o5 o6 o7, σ' = [some v, some u, some w, some (.ref p), o4, o5, o6, o7] ∧ MS T S (hd (p :: S) H2) H p (oD (jN r c m i)) H') (fun H2 e2 => ⟨none, none, none, none, rfl, (show MS T S _ H p (oD (jN r c m 0)) _ from (n1.go e2).base)⟩) (fun H2 i σ' H' ⟨_, _, _, _, _, n⟩ => ⟨_, n.s⟩) ?_ ?_
  · rintro H2 i x vx σ' H' H'' e2 hi ⟨o4, o5, o6, o7, rfl, n⟩ e3 rx
    have rx' : Rep (hd S H'') vx x := (rx _ n.s).shown
    have n3 := n.go e3
    have hx := mk x (List.mem_of_getElem? hi)
    refine g_pair rx' fun va vb ra rb => ?_
    have l3 := n3.le.hd dom
    refine q_asg n3.rd (ev_call3s (ev_var rfl (hr.le l3)) (ev_var rfl (hc.le l3)) (es_tup (ev_var rfl ra)) ⟨r1, r2, c1, c2, by omega⟩) fun v6 H4 e4 r4 => ?_
    have n4 := n3.go e4
    obtain ⟨j1, j2⟩ : (jN r c m i).length ≤ 500 ∧ ∀ e ∈ jN r c m i, e.1.items.length ≤ 30 := jk i
    have hjl : (m.items.map (·.1)).take (i + 1) = (m.items.map (·.1)).take i ++ [x.1] := by
      rw [List.take_add_one, List.getElem?_map, hi] <;> rfl
    have hj : jN r c m (i + 1) = joinStep r c (jN r c m i) x.1 := by
      unfold jN joinsN
      rw [hjl, List.foldl_append] <;> rfl
    refine q_forA n4.s.up (xs := (jN r c m i).map (·.1)) (fun Q q' => en_listDT (σ := [some v, some u, some w, some (.ref p), some va, some vb, some v6, o7]) (n := 3) (m := jN r c m i) (p := p) rfl n4.see S H4 n4.rd _ fun l vs H5 nl e5 eh5 hl rl => q' _ H5 e5 (rep_lst (a := l) (xs := vs) ?_ ?_)) (fun H5 j σ' H' => ∃ o7, σ' = [some v, some u, some w, some (.ref p), some va, some vb, some v6, o7] ∧ MS T S (hd (p :: S) H5) H p (oD (jIn r c x.1 (jN r c m i) j)) H') (fun H5 e5 => ⟨o7, rfl, (n4.go e5).base⟩) (fun H5 j σ' H' ⟨_, _, n⟩ => ⟨_, n.s⟩) ?_ ?_
    · have h5 := e5.soft n4.its n4.so
      rw [hd_out (by
        intro hm
        rcases List.mem_cons.mp hm with z | z
        · rw [z, h5] at hl
          cases hl
        · exact nl z)]
      exact hl
    · exact (rl.shown.unsee (e5.soft n4.its n4.so) fun z => z)
    · rintro H5 j y vy σ' H' H6 e5 hj' ⟨o7, rfl, n5⟩ e6 ry
      have ry' : Rep (hd S H6) vy y := (ry _ n5.s).shown
      have n6 := n5.go e6
      have l6 := n6.le.hd dom
      have r46 : Rep (hd S H6) v6 (mSupport r c x.1.items) := n6.rep ((r4.unsee n4.its fun z => z).le (e5.hd n4.s.dom))
      have hy : y.items.length ≤ 30 := by
        obtain ⟨e, he, rfl⟩ := List.mem_map.mp (List.mem_of_getElem? hj')
        exact j2 e he
      refine s_dputT n6.rd rfl (ev_call3s (ev_var rfl (hr.le l6)) (ev_var rfl (hc.le l6)) (es_list (en_lst (eas_starT (ev_var rfl ry') (eas_starT (ev_var rfl r46) eas_nil)) (by simp; omega)).r) ⟨r1, r2, c1, c2, by simp; omega⟩) ev_bl n6.see ?_ fun H7 e7 => ?_
      · have h1 := jIn_len r c x.1 (jN r c m i) j
        omega
      · refine ⟨_, rfl, ?_⟩
        rw [jIn_succ hj']
        have := (n6.go e7).set (u := oD (putD (jIn r c x.1 (jN r c m i) j) (mSupport r c (y.items ++ (mSupport r c x.1.items).items)) true)) trivial
        rw [List.append_nil]
        exact this
    · rintro H5 σ' H' e5 ⟨o7, rfl, n5⟩
      rw [jIn_all, ← hj] at n5
      refine s_skip n5.rd (et_is (et_test (ev_cmp (ev_lenDT rfl n5.see) ev_int)) (decide_eq_false (by have : (jN r c m (i + 1)).length ≤ 500 := (jk (i + 1)).1; omega))) fun H6 e6 => ?_
      exact ⟨_, _, _, _, rfl, (n5.go e6).down (((e3.trans e4).trans e5).hd n.s.dom |> fun z => n.s.le.trans z)⟩
  · rintro H2 σ' H' e2 ⟨o4, o5, o6, o7, rfl, n⟩
    unfold jN at n
    have et : (m.items.map (·.1)).take m.items.length = m.items.map (·.1) := by
      rw [← List.length_map (f := fun x : Tup Int × Int => x.1), List.take_length]
    have jl := (jk m.items.length).1
    rw [et] at n jl
    exact s_ret n.rd (en_sortDT rfl n.see (by omega)).r fun y H3 e3 r3 => q _ _ (n.le.trans e3) r3
theorem cal_joins_of {k : Nat} (D : At K mg "joins_of" s_joins_of) (F : Fx mg) (C_support_of : Cal P w K mg base k "support_of" ["rows", "columns", "lines"] (sp_support_of K T)) : Cal P w K mg base (k + 1) "joins_of" ["rows", "columns", "told"] (sp_joins_of K T) :=
  mk_cal D sc_joins_of (fun _ _ _ _ _ _ us hl => match us, hl with | [_, _, _], _ => rfl) (Pu3.len rfl) (fun f cdv A outer s H E hr => der_joins_of F C_support_of hr) (fun vs H Q E h => pure_joins_of vs H Q E h)
end K4
end
section
set_option Elab.async false
set_option linter.all false
set_option maxRecDepth 100000
set_option maxHeartbeats 4000000
namespace K4
open PySem PySem.Spec PyProof.Rows L2 PySem.W
variable {P : Program} {w : World} {K : PySem.W.Frag} {mg : Str → Option Value} {base : Heap} {T : List (Addr × Str)}

def sp_ordered (K : PySem.W.Frag) (T : List (Addr × Str)) : Sp := fun vs H Q E => PuD (α := Int × Int) (β := Int) T okOrd mOrd vs H Q E ∨ PuD (α := Int × Int) (β := Bool) T okOrd mOrd vs H Q E
abbrev n_ordered : List Str := ["found", "low", "one"]
theorem sc_ordered : FnScope n_ordered ["found"] (defScope s_ordered) := ⟨rfl, rfl, rfl, by decide +kernel, rfl, by decide +kernel, by decide +kernel⟩
def t_ordered (K : PySem.W.Frag) (T : List (Addr × Str)) : TS := (tSeq (tAsg (tC (.int 1)) (gName 1))
  (tSeq (tLock (tFor (iKeys (tVar 0)) (gName 2)
   (tAsg (tOp (rI CMul fun i j => .int (i * j)) (tVar 1) (tOp (rIxT K) (tVar 2) (tC (.int 1)))) (gName 1))))
  (tRet (tThen (fun σ H Q => tSortKey Int T K 0 1 σ H Q ∨ tSortKey Bool T K 0 1 σ H Q) (kTup K)))))
theorem der_ordered {k : Nat} {f : Addr} {c Pt : Addr} {A : Around} {outer : List Env} {s : Shared} {H : Hp} {E : XK} (F : Fx mg) (LA : LamAt base mg T c Pt "ordered.<locals>.<lambda>") (hr : Room k (A.deeper (envOfC "ordered" (defScope s_ordered) s.heap.objs.size f (.ref c)))) :
    PSs (cxOf CX0 P w K mg base n_ordered "ordered" (defScope s_ordered) f (.ref c) A outer s H E).nox (defBody s_ordered) (t_ordered K T) :=
  (pss_cons (ps_set (i := 1) sc_ordered.nd rfl (.inr rfl) pe_int)
  (pss_cons (ps_lock (ps_for PassesOwn.never rfl (pi_keys (pv 0)) (pg_name (i := 2) sc_ordered.nd rfl (.inl rfl))
   (pss_one (ps_set (i := 1) sc_ordered.nd rfl (.inr rfl) (pe_op op_mul (pv 1) (pe_ix ix_tup (pv 2) pe_int (fun _ _ => rfl)))))))
  (pss_one (ps_ret (pe_tupleOf (by rfl) F.b_tuple (pe_two (pe_sortKey (β := Int) (q6 := ⟨0, 0, 0, 0⟩) rfl hr.units (dp0 hr) rfl (.inl rfl) rfl rfl rfl (by rfl) F.b_sorted rfl LA.tb rfl rfl LA.mem LA.un) (pe_sortKey (β := Bool) (q6 := ⟨0, 0, 0, 0⟩) rfl hr.units (dp0 hr) rfl (.inl rfl) rfl rfl rfl (by rfl) F.b_sorted rfl LA.tb rfl rfl LA.mem LA.un)))))))
theorem ordered_go {β : Type} [DecidableEq β] [Datum β] [AtV β] (pick : ∀ (σ : L2.St) (H : Hp) (Q : VK), tSortKey β T K 0 1 σ H Q → (fun σ H Q => tSortKey Int T K 0 1 σ H Q ∨ tSortKey Bool T K 0 1 σ H Q : TE) σ H Q) (vs : List V) (H : Hp) (Q : VK) (E : XK) (h : PuD (α := Int × Int) (β := β) T okOrd mOrd vs H Q E) : t_ordered K T { nx := fun _ H' => Q .non H', rt := Q } (start n_ordered vs) H := by
  obtain ⟨S, p, m, dom, rfl, hm, ⟨ml, mc, mp⟩, tb, q⟩ := h
  have s0 : Sg T (hd S H) S H := ⟨dom, .same⟩
  have gt : GT T (hd S H) := GT.of tb dom
  have np : p ∉ S := (hd_some hm).2
  refine q_asg s0 (ev_int (i := 1)) fun v1 H1 e1 r1 => ?_
  obtain rfl := of_int r1
  have s1 := s0.go e1
  have hm1 := e1.soft (hd_some hm).1 trivial
  refine q_lockS (u := .dT (m.map kE)) s1 trivial trivial hm fun od => ?_
  have dl := dom_lock (o := od) s1.dom hm1 np
  have hg : hd S (upd H1 p (.frz od (.dT (m.map kE)))) p = some (.frz od (.dT (m.map kE))) := by rw [hd_out np, upd_same]
  refine s_forS (S := S) (G := hd S (upd H1 p (.frz od (.dT (m.map kE))))) ⟨dl, .same⟩ (sr_keysT (n := 0) rfl hg) (fun H2 i σ' H' => ∃ o, σ' = [some (.ref p), some (.int (lowOf (m.take i))), o] ∧ Le T H2 H' ∧ Sg T (hd S H2) S H') (fun H2 e2 => ⟨none, rfl, .same, ⟨(Sg.go (G := hd S (upd H1 p (.frz od (.dT (m.map kE))))) ⟨dl, .same⟩ e2).dom, .same⟩⟩) (fun H2 i σ' H' ⟨_, _, _, s'⟩ => ⟨S, s'⟩) ?_ ?_
  · rintro H2 i x v σ' H' H'' e2 hi ⟨o, rfl, e', s'⟩ e3 rx
    have rx' := rx S s'
    have s3 := s'.go e3
    rw [List.getElem?_map] at hi
    cases he : m[i]? with
    | none => rw [he] at hi; cases hi
    | some e =>
      rw [he] at hi
      cases hi
      have ht : lowOf (m.take (i + 1)) = lowOf (m.take i) * e.1.2 := by
        unfold lowOf
        rw [List.take_add_one, he, List.foldl_append]
        rfl
      refine s_asg s3.up (ev_opI (ev_var (x := lowOf (m.take i)) rfl rep_int) (ev_snd (ev_var rfl rx')) (mp i e he)) fun w H5 e5 r5 => ?_
      obtain rfl := of_int r5
      exact ⟨_, by rw [ht] <;> rfl, (e'.trans e3).trans e5, s3.go e5⟩
  · rintro H2 σ' H' e2 ⟨o, rfl, e', s'⟩
    rw [List.length_map, List.take_length]
    have eA := e2.trans e'
    have hp' : H' p = some (.frz od (.dT (m.map kE))) := eA.soft upd_same trivial
    have eU : Le T H1 (upd H' p (.dT (m.map kE))) := Le.unlock hm1 trivial eA
    have s4 := s1.go eU
    have l4 := (e1.trans eU).hd dom
    have hm4 : IsDT (hd S (upd H' p (.dT (m.map kE)))) p m := by
      show hd S _ p = _
      rw [hd_out np, upd_same]
    refine ⟨hp', s_ret s4.up (ev_tupL (xs := (m.mergeSort fun x y => decide (keyE (lowOf m) x ≤ keyE (lowOf m) y))) fun S5 H5 s5 Q5 q5 => pick _ _ _ (ev_sortKey (n := 0) (n2 := 1) (low := lowOf m) rfl rfl hm4 (gt.le l4) ml mc S5 H5 s5 Q5 q5)) fun y H5 e5 r5 => q _ _ ((e1.trans eU).trans e5) r5⟩
theorem pure_ordered (vs : List V) (H : Hp) (Q : VK) (E : XK) (h : sp_ordered K T vs H Q E) : t_ordered K T { nx := fun _ H' => Q .non H', rt := Q } (start n_ordered vs) H :=
  h.elim (ordered_go (fun _ _ _ => .inl) vs H Q E) (ordered_go (fun _ _ _ => .inr) vs H Q E)
theorem cal_ordered {k : Nat} {c Pt : Addr} (D : AtL K mg "ordered" s_ordered c) (F : Fx mg) (LA : LamAt base mg T c Pt "ordered.<locals>.<lambda>") : Cal P w K mg base (k + 1) "ordered" ["found"] (sp_ordered K T) :=
  mk_calL D sc_ordered (fun _ _ _ _ _ _ us hl => match us, hl with | [_], _ => rfl) (fun vs H Q E h => h.elim (PuD.len rfl vs H Q E) (PuD.len rfl vs H Q E)) (fun f A outer s H E hr => der_ordered F LA hr) (fun vs H Q E h => pure_ordered vs H Q E h)
end K4
end
section
set_option Elab.async false
set_option linter.all false
set_option maxRecDepth 100000
set_option maxHeartbeats 4000000
namespace K4
open PySem PySem.Spec PyProof.Rows L2 PySem.W
variable {P : Program} {w : World} {K : PySem.W.Frag} {mg : Str → Option Value} {base : Heap} {T : List (Addr × Str)}

def mLeastD (r c : Int) (m : Meas) : List ((Int × Int) × Bool) := ((mJoins r c m).filter fun _ => true).foldl (fun d l => putD d (mWithin r c m l.items) true) []
def mLeast (r c : Int) (m : Meas) : List (Int × Int) := (mOrd (mLeastD r c m)).items.map fun e => e.1
def okLeast (r c : Int) (m : Meas) : Prop := okJoins r c m ∧ (∀ l ∈ mJoins r c m, okWithin r c m l.items) ∧ okOrd (mLeastD r c m) ∧ (mJoins r c m).length ≤ 90000 ∧ (mLeastD r c m).length ≤ 90000
def sp_least_of (K : PySem.W.Frag) (T : List (Addr × Str)) : Sp := Pu3t T okLeast mLeast
abbrev n_least_of : List Str := ["rows", "columns", "told", "found", "lines", "value", "flag"]
theorem sc_least_of : FnScope n_least_of ["rows", "columns", "told"] (defScope s_least_of) := ⟨rfl, rfl, rfl, by decide +kernel, rfl, by decide +kernel, by decide +kernel⟩
def t_least_of (K : PySem.W.Frag) (T : List (Addr × Str)) : TS := (tSeq (tAsg (tDcT (iList K (tCall (sp_joins_of K T) [] E0 (tCons (tVar 0) (tCons (tVar 1) (tCons (tVar 2) tNil))))) (gName 4) tYes (tCall (sp_within_of K T) [] E0 (tCons (tVar 0) (tCons (tVar 1) (tCons (tVar 2) (tCons (tVar 4) tNil))))) (tC (.bl true)) [4]) (gName 3))
  (tRet (tLc (iTup K (tCall (sp_ordered K T) [] E0 (tCons (tVar 3) tNil))) (gTup K 2 (gCons (gName 5) (gCons (gName 6) gNil))) tYes (tVar 5) [5, 6])))
theorem der_least_of {k : Nat} {f : Addr} {cdv : Value} {A : Around} {outer : List Env} {s : Shared} {H : Hp} {E : XK} (F : Fx mg) (C_joins_of : Cal P w K mg base k "joins_of" ["rows", "columns", "told"] (sp_joins_of K T)) (C_within_of : Cal P w K mg base k "within_of" ["rows", "columns", "told", "lines"] (sp_within_of K T)) (C_ordered : Cal P w K mg base k "ordered" ["found"] (sp_ordered K T)) (hr : Room k (A.deeper (envOfC "least_of" (defScope s_least_of) s.heap.objs.size f cdv))) :
    PSs (cxOf CX0 P w K mg base n_least_of "least_of" (defScope s_least_of) f cdv A outer s H E).nox (defBody s_least_of) (t_least_of K T) :=
  (pss_cons (ps_setDcT (hu1 hr) (i := 3) (own := [("lines", 4)]) (g := (gName 4)) (tt := tYes) rfl sc_least_of.nd rfl rfl (sw_trueD rfl rfl rfl (by decide +kernel)) (pi_list (pe_cal C_joins_of hr (by rfl) (pa_cons (pv 0) (pa_cons (pv 1) (pa_cons (pv 2) pa_nil))))) (blkOk_by (own := [("lines", 4)]) (N := n_least_of) (sc := defScope s_least_of) (by decide +kernel)) (fun _ _ _ _ _ => (pg_name (i := 4) sc_least_of.nd rfl (.inl rfl))) (fun _ _ _ _ _ => pts_nil) (fun _ _ _ _ _ => (pe_cal C_within_of hr (by rfl) (pa_cons (pv 0) (pa_cons (pv 1) (pa_cons (pv 2) (pa_cons (pv 4) pa_nil)))))) (fun _ _ _ _ _ => pe_bl))
  (pss_one (ps_ret (pe_lc (own := [("value", 5), ("flag", 6)]) (g := (gTup K 2 (gCons (gName 5) (gCons (gName 6) gNil)))) (tt := tYes) rfl sc_least_of.nd (pi_tup (pe_cal C_ordered hr (by rfl) (pa_cons (pv 3) pa_nil))) (blkOk_by (own := [("value", 5), ("flag", 6)]) (N := n_least_of) (sc := defScope s_least_of) (by decide +kernel)) (fun _ _ _ _ _ => (pg_tup rfl (pgs_cons (pg_name (i := 5) sc_least_of.nd rfl (.inl rfl)) (pgs_cons (pg_name (i := 6) sc_least_of.nd rfl (.inl rfl)) pgs_nil)))) (fun _ _ _ _ _ => pts_nil) (fun _ _ _ _ _ => (pv 5))))))
theorem pure_least_of (vs : List V) (H : Hp) (Q : VK) (E : XK) (h : sp_least_of K T vs H Q E) : t_least_of K T { nx := fun _ H' => Q .non H', rt := Q } (start n_least_of vs) H := by
  obtain ⟨S, v, u, w, r, c, m, dom, rfl, hr, hc, hm, ⟨p1, p2, p3, p4, p5⟩, tb, q⟩ := h
  have s0 : Sg T (hd S H) S H := ⟨dom, .same⟩
  have gt : GT T (hd S H) := GT.of tb dom
  refine q_asgO s0 (eo_dcT (p := fun _ => true) (f := fun l : Tup Int => mWithin r c m l.items) (w := fun _ => true) (sr_list (ev_call3 (ev_var rfl hr) (ev_var rfl hc) (ev_var rfl hm) p1)) tgm_name p4 fun l hl v' S' H' s rx => ⟨rfl, rfl, et_yes, fun _ => ⟨ev_call4s (ev_var rfl (hr.le s.le)) (ev_var rfl (hc.le s.le)) (ev_var rfl (hm.le s.le)) (es_tup (ev_var rfl rx)) (p2 l hl), ev_bl⟩⟩) fun p H1 np e1 eh hp => ?_
  have n1 := MS.init (T := T) dom .same np e1 eh hp trivial
  have l1 := e1.hd dom
  refine s_ret n1.rd (en_map (fun e : (Int × Int) × Bool => e.1) (sr_tup (ev_callDgv (f := mOrd) (P := okOrd) (fun _ _ _ _ => .inr) (gt.le l1) rfl (m := mLeastD r c m) n1.see p3)) tgm_pair ?_ fun x hx v' S' H' s rx => g_pair rx fun vx vy rx1 rx2 => ⟨rfl, rfl, ev_var rfl rx1⟩).r fun y H2 e2 r2 => q _ _ (n1.le.trans e2) r2
  show (List.mergeSort _ _).length ≤ _
  rw [List.length_mergeSort]
  exact p5
theorem cal_least_of {k : Nat} (D : At K mg "least_of" s_least_of) (F : Fx mg) (C_joins_of : Cal P w K mg base k "joins_of" ["rows", "columns", "told"] (sp_joins_of K T)) (C_within_of : Cal P w K mg base k "within_of" ["rows", "columns", "told", "lines"] (sp_within_of K T)) (C_ordered : Cal P w K mg base k "ordered" ["found"] (sp_ordered K T)) : Cal P w K mg base (k + 1) "least_of" ["rows", "columns", "told"] (sp_least_of K T) :=
  mk_cal D sc_least_of (fun _ _ _ _ _ _ us hl => match us, hl with | [_, _, _], _ => rfl) (Pu3t.len rfl) (fun f cdv A outer s H E hr => der_least_of F C_joins_of C_within_of C_ordered hr) (fun vs H Q E h => pure_least_of vs H Q E h)
def sp_least_values (K : PySem.W.Frag) (T : List (Addr × Str)) : Sp := Pu3x T (fun r c m => okB r c ∧ okMeas r c m ∧ okLeast r c m) fun r c m => Tup.mk (mLeast r c m)
abbrev n_least_values : List Str := ["rows", "columns", "told"]
theorem sc_least_values : FnScope n_least_values ["rows", "columns", "told"] (defScope s_least_values) := ⟨rfl, rfl, rfl, by decide +kernel, rfl, by decide +kernel, by decide +kernel⟩
def t_least_values (K : PySem.W.Frag) (T : List (Addr × Str)) : TS := (tSeq (tDrop (tCall (sp_need_measure K T) [] E0 (tCons (tVar 0) (tCons (tVar 1) (tCons (tVar 2) tNil)))))
  (tRet (tThen (tCall (sp_least_of K T) [] E0 (tCons (tVar 0) (tCons (tVar 1) (tCons (tVar 2) tNil)))) (kTup K))))
theorem der_least_values {k : Nat} {f : Addr} {cdv : Value} {A : Around} {outer : List Env} {s : Shared} {H : Hp} {E : XK} (F : Fx mg) (C_need_measure : Cal P w K mg base k "need_measure" ["rows", "columns", "value"] (sp_need_measure K T)) (C_least_of : Cal P w K mg base k "least_of" ["rows", "columns", "told"] (sp_least_of K T)) (hr : Room k (A.deeper (envOfC "least_values" (defScope s_least_values) s.heap.objs.size f cdv))) :
    PSs (cxOf CX0 P w K mg base n_least_values "least_values" (defScope s_least_values) f cdv A outer s H E).nox (defBody s_least_values) (t_least_values K T) :=
  (pss_cons (ps_expr (pe_cal C_need_measure hr (by rfl) (pa_cons (pv 0) (pa_cons (pv 1) (pa_cons (pv 2) pa_nil)))))
  (pss_one (ps_ret (pe_tupleOf (by rfl) F.b_tuple (pe_cal C_least_of hr (by rfl) (pa_cons (pv 0) (pa_cons (pv 1) (pa_cons (pv 2) pa_nil))))))))
theorem pure_least_values (vs : List V) (H : Hp) (Q : VK) (E : XK) (h : sp_least_values K T vs H Q E) : t_least_values K T { nx := fun _ H' => Q .non H', rt := Q } (start n_least_values vs) H := by
  obtain ⟨S, v, u, w, r, c, m, dom, rfl, hr, hc, hm, hx, ⟨b, ok, ol⟩, tb, q⟩ := h
  have s0 : Sg T (hd S H) S H := ⟨dom, .same⟩
  have gt : GT T (hd S H) := GT.of tb dom
  refine q_drop s0 (ev_call3x gt (ev_var rfl hr) (ev_var rfl hc) (ex_var rfl hm hx) ⟨b, ok⟩) fun H1 e1 => ?_
  have l1 := e1.hd dom
  exact s_ret (s0.go e1).up (ev_tupL (ev_call3t (gt.le l1) (ev_var rfl (hr.le l1)) (ev_var rfl (hc.le l1)) (ev_var rfl (hm.le l1)) ol)) fun y H2 e2 r2 => q _ _ (e1.trans e2) r2
theorem cal_least_values {k : Nat} (D : At K mg "least_values" s_least_values) (F : Fx mg) (C_need_measure : Cal P w K mg base k "need_measure" ["rows", "columns", "value"] (sp_need_measure K T)) (C_least_of : Cal P w K mg base k "least_of" ["rows", "columns", "told"] (sp_least_of K T)) : Cal P w K mg base (k + 1) "least_values" ["rows", "columns", "told"] (sp_least_values K T) :=
  mk_cal D sc_least_values (fun _ _ _ _ _ _ us hl => match us, hl with | [_, _, _], _ => rfl) (Pu3x.len rfl) (fun f cdv A outer s H E hr => der_least_values F C_need_measure C_least_of hr) (fun vs H Q E h => pure_least_values vs H Q E h)
def mSome (r c : Int) (m : Meas) : List (Int × Int) := ((mLeast r c m).filter fun e => decide (e ≠ ((1, 1) : Int × Int)))
/-- the promise of second -/
def sp_second (K : PySem.W.Frag) (T : List (Addr × Str)) : Sp := fun vs H Q E => Pu3x T (fun r c m => okB r c ∧ okMeas r c m ∧ okLeast r c m ∧ mSome r c m ≠ [] ∧ (mLeast r c m).length ≤ 90000) (fun r c m => (mSome r c m).headD (0, 0)) vs H Q E ∨ Pu3x T (fun r c m => okB r c ∧ okMeas r c m ∧ okLeast r c m ∧ mSome r c m = [] ∧ (mLeast r c m).length ≤ 90000) (fun (_ _ : Int) (_ : Meas) => ()) vs H Q E
abbrev n_second : List Str := ["rows", "columns", "told", "some", "value"]
theorem sc_second : FnScope n_second ["rows", "columns", "told"] (defScope s_second) := ⟨rfl, rfl, rfl, by decide +kernel, rfl, by decide +kernel, by decide +kernel⟩
def t_second (K : PySem.W.Frag) (T : List (Addr × Str)) : TS := (tSeq (tDrop (tCall (sp_need_measure K T) [] E0 (tCons (tVar 0) (tCons (tVar 1) (tCons (tVar 2) tNil)))))
  (tSeq (tAsg (tLc (iList K (tCall (sp_least_of K T) [] E0 (tCons (tVar 0) (tCons (tVar 1) (tCons (tVar 2) tNil))))) (gName 4) (tTest (tOp (rNeQ (Int × Int)) (tVar 4) (tTup (tCons (tC (.int 1)) (tCons (tC (.int 1)) tNil))))) (tVar 4) [4]) (gName 3))
  (tRet (tIf (tTest (tOp (rNeQ (List (Int × Int))) (tVar 3) (tLst tNil))) (tOp (rIxL K) (tVar 3) (tC (.int 0))) (tC .non)))))
theorem der_second {k : Nat} {f : Addr} {cdv : Value} {A : Around} {outer : List Env} {s : Shared} {H : Hp} {E : XK} (F : Fx mg) (C_need_measure : Cal P w K mg base k "need_measure" ["rows", "columns", "value"] (sp_need_measure K T)) (C_least_of : Cal P w K mg base k "least_of" ["rows", "columns", "told"] (sp_least_of K T)) (hr : Room k (A.deeper (envOfC "second" (defScope s_second) s.heap.objs.size f cdv))) :
    PSs (cxOf CX0 P w K mg base n_second "second" (defScope s_second) f cdv A outer s H E).nox (defBody s_second) (t_second K T) :=
  (pss_cons (ps_expr (pe_cal C_need_measure hr (by rfl) (pa_cons (pv 0) (pa_cons (pv 1) (pa_cons (pv 2) pa_nil)))))
  (pss_cons (ps_setLc (i := 3) (own := [("value", 4)]) (g := (gName 4)) (tt := (tTest (tOp (rNeQ (Int × Int)) (tVar 4) (tTup (tCons (tC (.int 1)) (tCons (tC (.int 1)) tNil)))))) rfl sc_second.nd rfl rfl (sw_true rfl rfl rfl (by decide +kernel)) (pi_list (pe_cal C_least_of hr (by rfl) (pa_cons (pv 0) (pa_cons (pv 1) (pa_cons (pv 2) pa_nil))))) (blkOk_by (own := [("value", 4)]) (N := n_second) (sc := defScope s_second) (by decide +kernel)) (fun _ _ _ _ _ => (pg_name (i := 4) sc_second.nd rfl (.inl rfl))) (fun _ _ _ _ _ => (pts_one (pt_cmpR (op_neQ hr.units) (pv 4) (pe_tup (pa_cons pe_int (pa_cons pe_int pa_nil))) (nomark _)))) (fun _ _ _ _ _ => (pv 4)))
  (pss_one (ps_ret (pe_ifExp (pt_cmpR (op_neQ hr.units) (pv 3) (pe_lst pa_nil) (nomark _)) (pe_ix ix_list (pv 3) pe_int (fun _ _ => rfl)) pe_non)))))
theorem second_go {δ : Type} [DecidableEq δ] [Datum δ] {P : Int → Int → Meas → Prop} {f : Int → Int → Meas → δ} (hP : ∀ r c m, P r c m → okB r c ∧ okMeas r c m ∧ okLeast r c m ∧ (mLeast r c m).length ≤ 90000) (hf : ∀ r c m σ G, P r c m → (∀ n, σ = n → EvR T (tVar 3) σ G (mSome r c m)) → EvR T (tIf (tTest (tOp (rNeQ (List (Int × Int))) (tVar 3) (tLst tNil))) (tOp (rIxL K) (tVar 3) (tC (.int 0))) (tC .non)) σ G (f r c m))
    (vs : List V) (H : Hp) (Q : VK) (E : XK) (h : Pu3x T P f vs H Q E) : t_second K T { nx := fun _ H' => Q .non H', rt := Q } (start n_second vs) H := by
  obtain ⟨S, v, u, w, r, c, m, dom, rfl, hr, hc, hm, hx, hp, tb, q⟩ := h
  obtain ⟨b, ok, ol, ll⟩ := hP _ _ _ hp
  have s0 : Sg T (hd S H) S H := ⟨dom, .same⟩
  have gt : GT T (hd S H) := GT.of tb dom
  refine q_drop s0 (ev_call3x gt (ev_var rfl hr) (ev_var rfl hc) (ex_var rfl hm hx) ⟨b, ok⟩) fun H1 e1 => ?_
  have l1 := e1.hd dom
  refine q_asg (s0.go e1).up (en_lc (fun e : Int × Int => decide (e ≠ ((1, 1) : Int × Int))) (fun e => e) (sr_list (ev_call3t (gt.le l1) (ev_var rfl (hr.le l1)) (ev_var rfl (hc.le l1)) (ev_var rfl (hm.le l1)) ol)) tgm_name ll fun x hx v' S' H' s rx => ⟨rfl, rfl, et_test (ev_ne (ev_var rfl rx) (ev_tup2 ev_int ev_int)), fun _ => ev_var rfl rx⟩).r fun y H2 e2 r2 => ?_
  rw [List.map_id'] at r2
  exact s_ret ((s0.go e1).go e2).up (hf r c m _ _ hp fun n hn => ev_var rfl r2) fun y H3 e3 r3 => q _ _ ((e1.trans e2).trans e3) r3
theorem pure_second (vs : List V) (H : Hp) (Q : VK) (E : XK) (h : sp_second K T vs H Q E) : t_second K T { nx := fun _ H' => Q .non H', rt := Q } (start n_second vs) H := by
  rcases h with h | h
  · refine second_go (fun r c m ⟨a, b, c, d, e⟩ => ⟨a, b, c, e⟩) (fun r c m σ G hp hv => ?_) vs H Q E h
    obtain ⟨_, _, _, hne, _⟩ := hp
    refine ev_if (et_test (ev_ne (hv _ rfl) (en_lst eas_nil (by decide)).r)) (fun _ => ev_ixL (hv _ rfl) ev_int ?_) fun z => absurd hne (by simpa using z)
    exact atL_head hne _
  · refine second_go (fun r c m ⟨a, b, c, d, e⟩ => ⟨a, b, c, e⟩) (fun r c m σ G hp hv => ?_) vs H Q E h
    obtain ⟨_, _, _, he, _⟩ := hp
    refine ev_if (et_test (ev_ne (hv _ rfl) (en_lst eas_nil (by decide)).r)) (fun z => absurd he (by simpa using z)) fun _ => ev_non
theorem cal_second {k : Nat} (D : At K mg "second" s_second) (F : Fx mg) (C_need_measure : Cal P w K mg base k "need_measure" ["rows", "columns", "value"] (sp_need_measure K T)) (C_least_of : Cal P w K mg base k "least_of" ["rows", "columns", "told"] (sp_least_of K T)) : Cal P w K mg base (k + 1) "second" ["rows", "columns", "told"] (sp_second K T) :=
  mk_cal D sc_second (fun _ _ _ _ _ _ us hl => match us, hl with | [_, _, _], _ => rfl) (fun _ _ _ _ h => h.elim (Pu3x.len rfl _ _ _ _) (Pu3x.len rfl _ _ _ _)) (fun f cdv A outer s H E hr => der_second F C_need_measure C_least_of hr) (fun vs H Q E h => pure_second vs H Q E h)
end K4
end
section
set_option Elab.async false
set_option linter.all false
set_option maxRecDepth 100000
set_option maxHeartbeats 4000000
namespace K4
open PySem PySem.Spec PyProof.Rows L2 PySem.W
variable {P : Program} {w : World} {K : PySem.W.Frag} {mg : Str → Option Value} {base : Heap} {T : List (Addr × Str)}

/-! the lambdas of own_values and trace -/
def noE : Expr := .Constant .none 0 ⟨0, 0, 0, 0⟩
def lamO : Expr := match defBody s_own_values with | [_, .Return (some (.Call _ [_, _, _, l] _ _)) _] => l | _ => noE
def lamT : Expr := match defBody s_trace with | [_, _, _, .For _ (.Call _ [_, _, _, l] _ _) _ _ _, _] => l | _ => noE
abbrev laA : Expr → Arguments | .Lambda a _ _ _ => a | _ => { posonlyargs := [], args := [], vararg := none, kwonlyargs := [], kw_defaults := [], kwarg := none, defaults := [] }
abbrev laB : Expr → Expr | .Lambda _ b _ _ => b | _ => noE
abbrev laS : Expr → Scope | .Lambda _ _ s _ => s | _ => { kind := .function, names := [], isGenerator := false, isCoroutine := false }
abbrev nL : List Str := ["one", "other"]
theorem sc_lamO : FnScope nL ["one", "other"] (laS lamO) := ⟨rfl, rfl, rfl, by decide +kernel, rfl, by decide +kernel, by decide +kernel⟩
theorem sc_lamT : FnScope nL ["one", "other"] (laS lamT) := ⟨rfl, rfl, rfl, by decide +kernel, rfl, by decide +kernel, by decide +kernel⟩
abbrev qO : Str := "own_values.<locals>.<lambda>"
abbrev qT : Str := "trace.<locals>.<lambda>"
abbrev IsO (H : Hp) (f : Addr) : Prop := IsLam H f qO (laA lamO) (laB lamO) (laS lamO)
abbrev IsT (H : Hp) (f : Addr) : Prop := IsLam H f qT (laA lamT) (laB lamT) (laS lamT)
def IsImg (H : Hp) (f : Addr) : Prop := IsO H f ∨ IsT H f
theorem IsImg.le {H H' : Hp} {f : Addr} (h : IsImg H f) (e : Le T H H') : IsImg H' f := h.imp (fun h => h.le e) fun h => h.le e
def t_lam (K : PySem.W.Frag) (T : List (Addr × Str)) : TE := (tCall (sp_power_of_two K T) [] E0 (tCons (tOp (rI CMul fun i j => .int (i * j)) (tVar 0) (tVar 1)) tNil))
def tImg (K : PySem.W.Frag) (T : List (Addr × Str)) (i : Nat) (ta tb : TE) : TE := fun σ H Q => tLamC i 2 nL qO (laA lamO) (laB lamO) (laS lamO) (t_lam K T) (tCons ta (tCons tb tNil)) σ H Q ∨ tLamC i 2 nL qT (laA lamT) (laB lamT) (laS lamT) (t_lam K T) (tCons ta (tCons tb tNil)) σ H Q
theorem ev_img {σ : L2.St} {G : Hp} {f : Addr} {i : Nat} {ta tb : TE} {x y : Int} (hs : σ[i]? = some (some (.ref f))) (hI : IsImg G f) (ha : EvR T ta σ G x) (hb : EvR T tb σ G y) (c : CMul x y) (p : 0 ≤ x * y ∧ x * y ≤ 200) : EvR T (tImg K T i ta tb) σ G (mPow2 (x * y)) := fun S H1 s Q q => by
  have go : ∀ {qq : Str} {l : Expr}, IsLam G f qq (laA l) (laB l) (laS l) → tLamC i 2 nL qq (laA l) (laB l) (laS l) (t_lam K T) (tCons ta (tCons tb tNil)) σ H1 Q := fun h =>
    ⟨f, hs, (h.le s.le).real, ha S H1 s _ fun v H2 e2 r2 => hb S H2 (s.go e2) _ fun u H3 e3 r3 =>
      ⟨rfl, (h.le s.le).real.le (e2.trans e3), (ev_call1 (ev_opI (ev_var (σ := start nL [v, u]) (n := 0) (G := hd S H3) rfl (r2.le (e3.hd (s.go e2).dom))) (ev_var (n := 1) rfl r3) c) p) S H3 ((s.go e2).go e3).up Q fun w H4 e4 r4 => q w H4 ((e2.trans e3).trans e4) r4⟩⟩
  exact hI.imp go go
/-! times_of -/
def tmWay (r c one other : Int) : Int := mChosen r one * mChosen c other * (mPow2 (one * other) - 1)
def tmAdd (r c one other : Int) : Int := if (r - one + c - other) % 2 = 0 then tmWay r c one other else -tmWay r c one other
def tmIn (r c one f : Int) : Int := (rng 1 (c + 1 - 1).toNat).foldl (fun f other => f + tmAdd r c one other) f
def mTimesOf (r c : Int) : Int := (rng 1 (r + 1 - 1).toNat).foldl (fun f one => tmIn r c one f) 0
instance decCMul (i j : Int) : Decidable (CMul i j) := by unfold CMul; infer_instance
def tmOk (r c : Int) : Bool := (rng 1 (r + 1 - 1).toNat).all fun one => (rng 1 (c + 1 - 1).toNat).all fun other => decide (CMul one other ∧ (0 ≤ one * other ∧ one * other ≤ 200) ∧ CMul (mChosen r one) (mChosen c other) ∧ CMul (mChosen r one * mChosen c other) (mPow2 (one * other) - 1) ∧ 0 ≤ one ∧ one ≤ 12 ∧ 0 ≤ other ∧ other ≤ 12)
def okTimes (r c : Int) : Prop := 0 ≤ r ∧ r ≤ 12 ∧ 0 ≤ c ∧ c ≤ 12 ∧ tmOk r c = true
def sp_times_of (K : PySem.W.Frag) (T : List (Addr × Str)) : Sp := fun vs H Q _ => ∃ S v u f r c, Dom S H ∧ vs = [v, u, .ref f] ∧ Rep (hd S H) v r ∧ Rep (hd S H) u c ∧ IsImg (hd S H) f ∧ okTimes r c ∧ ∀ w H', Le T H H' → Rep (hd S H') w (mTimesOf r c) → Q w H'
theorem len_times_of {ps : List Str} (h : ps.length = 3) : ∀ vs H Q E, sp_times_of K T vs H Q E → vs.length = ps.length := fun vs H Q E q => by
  obtain ⟨S, v, u, f, r, c, _, rfl, _⟩ := q
  exact h.symm
theorem s_augI {i : Nat} {te : TE} {σ : L2.St} {S : List Addr} {G H : Hp} {D : Ends} {a b : Int} (s : Sg T G S H) (hs : σ[i]? = some (some (.int a))) (h : EvR T te σ G b) (k : ∀ H1, Le T H H1 → D.nx (σ.set i (some (.int (a + b)))) H1) : tAug i te (ipI fun i j => i + j) D σ H :=
  ⟨.int a, hs, h S H s _ fun v H1 e1 r1 => by
    obtain rfl := of_int r1
    exact ⟨a, b, rfl, rfl, k H1 e1⟩⟩
abbrev n_times_of : List Str := ["rows", "columns", "images", "found", "one", "other", "ways"]
theorem sc_times_of : FnScope n_times_of ["rows", "columns", "images"] (defScope s_times_of) := ⟨rfl, rfl, rfl, by decide +kernel, rfl, by decide +kernel, by decide +kernel⟩
def t_times_of (K : PySem.W.Frag) (T : List (Addr × Str)) : TS := (tSeq (tAsg (tC (.int 0)) (gName 3))
  (tSeq (tFor (iRng2 (tCons (tC (.int 1)) (tCons (tOp (rI0 fun i j => .int (i + j)) (tVar 0) (tC (.int 1))) tNil))) (gName 4)
   (tFor (iRng2 (tCons (tC (.int 1)) (tCons (tOp (rI0 fun i j => .int (i + j)) (tVar 1) (tC (.int 1))) tNil))) (gName 5)
   (tSeq (tAsg (tOp (rI CMul fun i j => .int (i * j)) (tOp (rI CMul fun i j => .int (i * j)) (tCall (sp_chosen K T) [] E0 (tCons (tVar 0) (tCons (tVar 4) tNil))) (tCall (sp_chosen K T) [] E0 (tCons (tVar 1) (tCons (tVar 5) tNil)))) (tOp (rI0 fun i j => .int (i - j)) (tImg K T 2 (tVar 4) (tVar 5)) (tC (.int 1)))) (gName 6))
  (tAug 3 (tIf (tTest (tOp (rEqQ Int) (tOp (rI (fun _ j => 0 < j) fun i j => .int (i % j)) (tOp (rI0 fun i j => .int (i - j)) (tOp (rI0 fun i j => .int (i + j)) (tOp (rI0 fun i j => .int (i - j)) (tVar 0) (tVar 4)) (tVar 1)) (tVar 5)) (tC (.int 2))) (tC (.int 0)))) (tVar 6) (tUn (rU fun i => .int (-i)) (tVar 6))) (ipI fun i j => i + j)))))
  (tRet (tVar 3))))
theorem der_times_of {k : Nat} {f : Addr} {cdv : Value} {A : Around} {outer : List Env} {s : Shared} {H : Hp} {E : XK} (F : Fx mg) (C_chosen : Cal P w K mg base (k + 1) "chosen" ["many", "some"] (sp_chosen K T)) (C_power_of_two : Cal P w K mg base k "power_of_two" ["many"] (sp_power_of_two K T)) (hr : Room (k + 1) (A.deeper (envOfC "times_of" (defScope s_times_of) s.heap.objs.size f cdv))) :
    PSs (cxOf CX0 P w K mg base n_times_of "times_of" (defScope s_times_of) f cdv A outer s H E).nox (defBody s_times_of) (t_times_of K T) :=
  (pss_cons (ps_set (i := 3) sc_times_of.nd rfl (.inl rfl) pe_int)
  (pss_cons (ps_for PassesOwn.never rfl (pi_range2 (by rfl) F.b_range (pa_cons pe_int (pa_cons (pe_op op_add (pv 0) pe_int) pa_nil))) (pg_name (i := 4) sc_times_of.nd rfl (.inl rfl))
   (pss_one (ps_for PassesOwn.never rfl (pi_range2 (by rfl) F.b_range (pa_cons pe_int (pa_cons (pe_op op_add (pv 1) pe_int) pa_nil))) (pg_name (i := 5) sc_times_of.nd rfl (.inl rfl))
   (pss_cons (ps_set (i := 6) sc_times_of.nd rfl (.inl rfl) (pe_op op_mul (pe_op op_mul (pe_cal C_chosen hr (by rfl) (pa_cons (pv 0) (pa_cons (pv 4) pa_nil))) (pe_cal C_chosen hr (by rfl) (pa_cons (pv 1) (pa_cons (pv 5) pa_nil)))) (pe_op op_sub (pe_two (pe_lamC sc_lamO hr rfl (.inl rfl) (pa_cons (pv 4) (pa_cons (pv 5) pa_nil)) (fun pm cdv ctv us hl => match us, hl with | [_, _], _ => rfl) (fun A outer s H f cd hr2 => pe_cal C_power_of_two hr2 (by rfl) (pa_cons (pe_op op_mul (pv 0) (pv 1)) pa_nil))) (pe_lamC sc_lamT hr rfl (.inl rfl) (pa_cons (pv 4) (pa_cons (pv 5) pa_nil)) (fun pm cdv ctv us hl => match us, hl with | [_, _], _ => rfl) (fun A outer s H f cd hr2 => pe_cal C_power_of_two hr2 (by rfl) (pa_cons (pe_op op_mul (pv 0) (pv 1)) pa_nil)))) pe_int)))
  (pss_one (ps_aug (i := 3) sc_times_of.nd rfl (.inl rfl) (pe_ifExp (pt_cmpR (op_eqQ hr.units) (pe_op op_mod (pe_op op_sub (pe_op op_add (pe_op op_sub (pv 0) (pv 4)) (pv 1)) (pv 5)) pe_int) pe_int (nomark _)) (pv 6) (pe_un un_neg (pv 6))) ip_add))))))
  (pss_one (ps_ret (pv 3)))))
theorem pure_times_of (vs : List V) (H : Hp) (Q : VK) (E : XK) (h : sp_times_of K T vs H Q E) : t_times_of K T { nx := fun _ H' => Q .non H', rt := Q } (start n_times_of vs) H := by
  obtain ⟨S, v, u, f, r, c, dom, rfl, hr, hc, hi, ⟨r1, r2, c1, c2, ok⟩, q⟩ := h
  obtain rfl := of_int hr
  obtain rfl := of_int hc
  have s0 : Sg T (hd S H) S H := ⟨dom, .same⟩
  refine q_asg s0 (ev_int (i := 0)) fun v1 H1 e1 r1' => ?_
  obtain rfl := of_int r1'
  have s1 := s0.go e1
  have i1 := hi.le (e1.hd dom)
  have hR : ∀ {σ : L2.St} {G : Hp}, σ[0]? = some (some (.int r)) → EvR T (tVar 0) σ G r := fun h => ev_var h rep_int
  have hC : ∀ {σ : L2.St} {G : Hp}, σ[1]? = some (some (.int c)) → EvR T (tVar 1) σ G c := fun h => ev_var h rep_int
  refine s_forS (D := { nx := _, rt := _, bk := _, ct := _ }) s1.up (sr_r2 ev_int (ev_opI0 (hR rfl) ev_int) (by omega) (by omega) (by omega) (by omega)) (fun H2 i σ' H' => ∃ o4 o5 o6, σ' = [some (.int r), some (.int c), some (.ref f), some (.int (((rng 1 (r + 1 - 1).toNat).take i).foldl (fun f one => tmIn r c one f) 0)), o4, o5, o6] ∧ Le T H2 H' ∧ Sg T (hd S H2) S H') (fun H2 e2 => ⟨none, none, none, rfl, .same, ⟨(s1.go e2).dom, .same⟩⟩) (fun H2 i σ' H' ⟨_, _, _, _, _, s'⟩ => ⟨S, s'⟩) ?_ ?_
  · rintro H2 i one v σ' H' H'' e2 hi2 ⟨o4, o5, o6, rfl, e', s'⟩ e3 rx
    obtain rfl := of_int (rx S s')
    have s3 := s'.go e3
    have eA := (e2.trans e').trans e3
    have i3 := i1.le (eA.hd s1.dom)
    have okO := List.all_eq_true.mp ok one (List.mem_of_getElem? hi2)
    have ht : ((rng 1 (r + 1 - 1).toNat).take (i + 1)).foldl (fun f one => tmIn r c one f) 0 = tmIn r c one (((rng 1 (r + 1 - 1).toNat).take i).foldl (fun f one => tmIn r c one f) 0) := by
      rw [List.take_add_one, hi2, List.foldl_append]
      rfl
    refine s_forS s3.up (sr_r2 ev_int (ev_opI0 (hC rfl) ev_int) (by omega) (by omega) (by omega) (by omega)) (fun H4 j σ' H' => ∃ o5 o6, σ' = [some (.int r), some (.int c), some (.ref f), some (.int (((rng 1 (c + 1 - 1).toNat).take j).foldl (fun f other => f + tmAdd r c one other) (((rng 1 (r + 1 - 1).toNat).take i).foldl (fun f one => tmIn r c one f) 0))), some (.int one), o5, o6] ∧ Le T H4 H' ∧ Sg T (hd S H4) S H') (fun H4 e4 => ⟨o5, o6, rfl, .same, ⟨(s3.go e4).dom, .same⟩⟩) (fun H4 i σ' H' ⟨_, _, _, _, s'⟩ => ⟨S, s'⟩) ?_ ?_
    · rintro H4 j other v σ' H5 H6 e4 hj ⟨o5, o6, rfl, e5, s5⟩ e6 rx
      obtain rfl := of_int (rx S s5)
      have s6 := s5.go e6
      have i6 := i3.le (((e4.trans e5).trans e6).hd s3.dom)
      obtain ⟨k1, k2, k3, k4, k5, k6, k7, k8⟩ := of_decide_eq_true (List.all_eq_true.mp okO other (List.mem_of_getElem? hj))
      have ht2 : ((rng 1 (c + 1 - 1).toNat).take (j + 1)).foldl (fun f other => f + tmAdd r c one other) (((rng 1 (r + 1 - 1).toNat).take i).foldl (fun f one => tmIn r c one f) 0) = ((rng 1 (c + 1 - 1).toNat).take j).foldl (fun f other => f + tmAdd r c one other) (((rng 1 (r + 1 - 1).toNat).take i).foldl (fun f one => tmIn r c one f) 0) + tmAdd r c one other := by
        rw [List.take_add_one, hj, List.foldl_append]
        rfl
      generalize ((rng 1 (c + 1 - 1).toNat).take j).foldl (fun f other => f + tmAdd r c one other) (((rng 1 (r + 1 - 1).toNat).take i).foldl (fun f one => tmIn r c one f) 0) = acc at ht2 ⊢
      refine q_asg s6.up (ev_opI (g := fun i j => i * j) (ev_opI (g := fun i j => i * j) (ev_call2 (hR rfl) (ev_var (x := one) rfl rep_int) ⟨r1, r2, k5, k6⟩) (ev_call2 (hC rfl) (ev_var (x := other) rfl rep_int) ⟨c1, c2, k7, k8⟩) k3) (ev_opI0 (g := fun i j => i - j) (ev_img (f := f) rfl i6 (ev_var (x := one) rfl rep_int) (ev_var (x := other) rfl rep_int) k1 k2) ev_int) k4) fun v7 H7 e7 r7 => ?_
      obtain rfl := of_int r7
      have s7 := s6.go e7
      refine s_augI (a := acc) (b := tmAdd r c one other) s7.up rfl (ev_if (et_test (ev_eq (ev_opI (g := fun i j => i % j) (ev_opI0 (g := fun i j => i - j) (ev_opI0 (g := fun i j => i + j) (ev_opI0 (g := fun i j => i - j) (hR rfl) (ev_var (x := one) rfl rep_int)) (hC rfl)) (ev_var (x := other) rfl rep_int)) ev_int (by decide)) ev_int)) (fun hb => ?_) fun hb => ?_) fun H8 e8 => ?_
      · exact ev_var rfl (by rw [tmAdd, if_pos (of_decide_eq_true hb)]; exact rep_int)
      · rw [tmAdd, if_neg (of_decide_eq_false hb)]
        exact ev_neg (ev_var (x := tmWay r c one other) rfl rep_int)
      · exact ⟨_, _, by rw [ht2] <;> rfl, ((e5.trans e6).trans e7).trans e8, s7.go e8⟩
    · rintro H4 σ' H5 e4 ⟨o5, o6, rfl, e5, s5⟩
      rw [List.take_length]
      exact ⟨_, _, _, by rw [ht] <;> rfl, ((e'.trans e3).trans e4).trans e5, ⟨s5.dom, (s'.le).trans (((e3.trans e4).trans e5).hd s'.dom)⟩⟩
  · rintro H2 σ' H' e2 ⟨o4, o5, o6, rfl, e', s'⟩
    rw [List.take_length]
    exact s_ret s'.up (ev_var (x := mTimesOf r c) rfl rep_int) fun y H4 e4 r4 => q _ _ (((e1.trans e2).trans e').trans e4) r4
theorem cal_times_of {k : Nat} (D : At K mg "times_of" s_times_of) (F : Fx mg) (C_chosen : Cal P w K mg base (k + 1) "chosen" ["many", "some"] (sp_chosen K T)) (C_power_of_two : Cal P w K mg base k "power_of_two" ["many"] (sp_power_of_two K T)) : Cal P w K mg base (k + 2) "times_of" ["rows", "columns", "images"] (sp_times_of K T) :=
  mk_cal D sc_times_of (fun _ _ _ _ _ _ us hl => match us, hl with | [_, _, _], _ => rfl) (len_times_of rfl) (fun f cdv A outer s H E hr => der_times_of F C_chosen C_power_of_two hr) (fun vs H Q E h => pure_times_of vs H Q E h)
end K4
end
section
set_option Elab.async false
set_option linter.all false
set_option maxRecDepth 100000
set_option maxHeartbeats 4000000
namespace K4
open PySem PySem.Spec PyProof.Rows L2 PySem.W
variable {P : Program} {w : World} {K : PySem.W.Frag} {mg : Str → Option Value} {base : Heap} {T : List (Addr × Str)}

theorem ev_times {σ : L2.St} {G : Hp} {f : Addr} {n : Nat} {ta tb : TE} {x y : Int} (hs : σ[n]? = some (some (.ref f))) (hI : IsImg G f) (ha : EvR T ta σ G x) (hb : EvR T tb σ G y) (p : okTimes x y) : EvR T (tCall (sp_times_of K T) [] E0 (tCons ta (tCons tb (tCons (tVar n) tNil)))) σ G (mTimesOf x y) := fun S H1 s Q q =>
  ha S H1 s _ fun v H2 e2 r2 => hb S H2 (s.go e2) _ fun u H3 e3 r3 => ⟨.ref f, hs, S, v, u, f, x, y, ((s.go e2).go e3).dom, rfl, r2.le (e3.hd (s.go e2).dom), r3, hI.le ((s.go e2).go e3).le, p, fun w H4 e4 r4 => q w H4 ((e2.trans e3).trans e4) r4⟩
abbrev DVal := List ((Int × Int) × Int)
def vbStep (r c : Int) (m : Meas) (high : List Int) (f : DVal) (wide : List Int) : DVal := putD f (mWithin r c m (high ++ wide)) ((getD' f (mWithin r c m (high ++ wide))).getD 0 + mTimesOf (r - high.length) (c - wide.length))
def highsOf (r : Int) : List (List Int) := mSubsets (rng 0 r.toNat)
def widesOf (r c : Int) : List (List Int) := mSubsets (rng r (r + c - r).toNat)
def vbIn (r c : Int) (m : Meas) (high : List Int) (f : DVal) (j : Nat) : DVal := ((widesOf r c).take j).foldl (vbStep r c m high) f
def vbOut (r c : Int) (m : Meas) (i : Nat) : DVal := ((highsOf r).take i).foldl (fun f high => (widesOf r c).foldl (vbStep r c m high) f) [((1, 1), 1)]
theorem vbIn_succ {r c : Int} {m : Meas} {h x : List Int} {f : DVal} {j : Nat} (e : (widesOf r c)[j]? = some x) : vbIn r c m h f (j + 1) = vbStep r c m h (vbIn r c m h f j) x := by
  unfold vbIn
  rw [List.take_add_one, e, List.foldl_append] <;> rfl
theorem vbOut_succ {r c : Int} {m : Meas} {h : List Int} {i : Nat} (e : (highsOf r)[i]? = some h) : vbOut r c m (i + 1) = vbIn r c m h (vbOut r c m i) (widesOf r c).length := by
  unfold vbOut vbIn
  rw [List.take_length, List.take_add_one, e, List.foldl_append] <;> rfl
def mVals (r c : Int) (m : Meas) : DVal := ((vbOut r c m (highsOf r).length).filter fun e => decide (0 < e.2)).foldl (fun d e => putD d e.1 e.2) []
def okVals (r c : Int) (m : Meas) : Prop := 0 ≤ r ∧ r ≤ 12 ∧ 0 ≤ c ∧ c ≤ 12 ∧ (∀ high ∈ highsOf r, ∀ wide ∈ widesOf r c, okTimes (r - high.length) (c - wide.length) ∧ okWithin r c m (high ++ wide) ∧ high.length + wide.length ≤ 100) ∧ (∀ i high j, (highsOf r)[i]? = some high → (vbIn r c m high (vbOut r c m i) j).length ≤ 80000) ∧ (vbOut r c m (highsOf r).length).length ≤ 80000 ∧ okOrd (mVals r c m)
def sp_values_by (K : PySem.W.Frag) (T : List (Addr × Str)) : Sp := fun vs H Q _ => ∃ S v u t f r c m, Dom S H ∧ vs = [v, u, t, .ref f] ∧ Rep (hd S H) v r ∧ Rep (hd S H) u c ∧ Rep (hd S H) t m ∧ IsImg (hd S H) f ∧ okVals r c m ∧ LamX.Tabs T H ∧ ∀ w H', Le T H H' → Rep (hd S H') w (mOrd (mVals r c m)) → Q w H'
theorem len_values_by {ps : List Str} (h : ps.length = 4) : ∀ vs H Q E, sp_values_by K T vs H Q E → vs.length = ps.length := fun vs H Q E q => by
  obtain ⟨S, v, u, t, f, r, c, m, _, rfl, _⟩ := q
  exact h.symm
abbrev n_values_by : List Str := ["rows", "columns", "told", "images", "found", "high", "wide", "many", "value"]
theorem sc_values_by : FnScope n_values_by ["rows", "columns", "told", "images"] (defScope s_values_by) := ⟨rfl, rfl, rfl, by decide +kernel, rfl, by decide +kernel, by decide +kernel⟩
def t_values_by (K : PySem.W.Frag) (T : List (Addr × Str)) : TS := (tSeq (tAsg (tDispT (tTup (tCons (tC (.int 1)) (tCons (tC (.int 1)) tNil))) (tC (.int 1))) (gName 4))
  (tSeq (tFor (iList K (tCall (sp_subsets K T) [] E0 (tCons (tLstRg (tRg1 (tVar 0))) tNil))) (gName 5)
   (tFor (iList K (tCall (sp_subsets K T) [] E0 (tCons (tLstRg (tRg2 (tVar 0) (tOp (rI0 fun i j => .int (i + j)) (tVar 0) (tVar 1)))) tNil))) (gName 6)
   (tSeq (tAsg (tCall (sp_times_of K T) [] E0 (tCons (tOp (rI0 fun i j => .int (i - j)) (tVar 0) (tCB (rLenS K) (tCons (tVar 5) tNil))) (tCons (tOp (rI0 fun i j => .int (i - j)) (tVar 1) (tCB (rLenS K) (tCons (tVar 6) tNil))) (tCons (tVar 3) tNil)))) (gName 7))
  (tSeq (tAsg (tCall (sp_within_of K T) [] E0 (tCons (tVar 0) (tCons (tVar 1) (tCons (tVar 2) (tCons (tOp rCat (tVar 5) (tVar 6)) tNil))))) (gName 8))
  (sDPut (tVar 4) (tVar 8) (tOp (rI0 fun i j => .int (i + j)) (tDGet2 (tVar 4) (tVar 8) (tC (.int 0))) (tVar 7)))))))
  (tRet (tCall (sp_ordered K T) [] E0 (tCons (tLockE (tDcT (iItemsT (tVar 4)) (gTup K 2 (gCons (gName 8) (gCons (gName 7) gNil))) (tTest (tOp (rI0 fun i j => .bl (decide (j < i))) (tVar 7) (tC (.int 0)))) (tVar 8) (tVar 7) [8, 7])) tNil)))))
theorem der_values_by {k : Nat} {f : Addr} {cdv : Value} {A : Around} {outer : List Env} {s : Shared} {H : Hp} {E : XK} (F : Fx mg) (C_subsets : Cal P w K mg base k "subsets" ["some"] (sp_subsets K T)) (C_times_of : Cal P w K mg base k "times_of" ["rows", "columns", "images"] (sp_times_of K T)) (C_within_of : Cal P w K mg base k "within_of" ["rows", "columns", "told", "lines"] (sp_within_of K T)) (C_ordered : Cal P w K mg base k "ordered" ["found"] (sp_ordered K T)) (hr : Room k (A.deeper (envOfC "values_by" (defScope s_values_by) s.heap.objs.size f cdv))) :
    PSs (cxOf CX0 P w K mg base n_values_by "values_by" (defScope s_values_by) f cdv A outer s H E).nox (defBody s_values_by) (t_values_by K T) :=
  (pss_cons (ps_set (i := 4) sc_values_by.nd rfl (.inl rfl) (pe_dispT (hu1 hr) (pe_tup (pa_cons pe_int (pa_cons pe_int pa_nil))) pe_int))
  (pss_cons (ps_for PassesOwn.never rfl (pi_list (pe_cal C_subsets hr (by rfl) (pa_cons (pe_listRg rfl (by rfl) F.b_list (prg_1 (by rfl) F.b_range (pv 0))) pa_nil))) (pg_name (i := 5) sc_values_by.nd rfl (.inl rfl))
   (pss_one (ps_for PassesOwn.never rfl (pi_list (pe_cal C_subsets hr (by rfl) (pa_cons (pe_listRg rfl (by rfl) F.b_list (prg_2 (by rfl) F.b_range (pv 0) (pe_op op_add (pv 0) (pv 1)))) pa_nil))) (pg_name (i := 6) sc_values_by.nd rfl (.inl rfl))
   (pss_cons (ps_set (i := 7) sc_values_by.nd rfl (.inl rfl) (pe_cal C_times_of hr (by rfl) (pa_cons (pe_op op_sub (pv 0) (pe_callB call_len_seq (by rfl) F.b_len (by decide +kernel) (pa_cons (pv 5) pa_nil))) (pa_cons (pe_op op_sub (pv 1) (pe_callB call_len_seq (by rfl) F.b_len (by decide +kernel) (pa_cons (pv 6) pa_nil))) (pa_cons (pv 3) pa_nil)))))
  (pss_cons (ps_set (i := 8) sc_values_by.nd rfl (.inl rfl) (pe_cal C_within_of hr (by rfl) (pa_cons (pv 0) (pa_cons (pv 1) (pa_cons (pv 2) (pa_cons (pe_op op_cat (pv 5) (pv 6)) pa_nil))))))
  (pss_one (ps_dput (hu1 hr) (pv 4) (pv 8) (pe_op op_add (pe_dget2 (hu1 hr) (pv 4) (pv 8) pe_int ⟨rfl, rfl, rfl, rfl⟩) (pv 7)) rfl)))))))
  (pss_one (ps_ret (pe_cal C_ordered hr (by rfl) (pa_cons (pe_lock (pe_dcT (hu1 hr) (own := [("value", 8), ("many", 7)]) (g := (gTup K 2 (gCons (gName 8) (gCons (gName 7) gNil)))) (tt := (tTest (tOp (rI0 fun i j => .bl (decide (j < i))) (tVar 7) (tC (.int 0))))) rfl sc_values_by.nd (pi_itemsT (pv 4)) (blkOk_by (own := [("value", 8), ("many", 7)]) (N := n_values_by) (sc := defScope s_values_by) (by decide +kernel)) (fun _ _ _ _ _ => (pg_tup rfl (pgs_cons (pg_name (i := 8) sc_values_by.nd rfl (.inl rfl)) (pgs_cons (pg_name (i := 7) sc_values_by.nd rfl (.inl rfl)) pgs_nil)))) (fun _ _ _ _ _ => (pts_one (pt_cmpR (op_gt) (pv 7) pe_int (nomark _)))) (fun _ _ _ _ _ => (pv 8)) (fun _ _ _ _ _ => (pv 7)))) pa_nil))))))
theorem pure_values_by (vs : List V) (H : Hp) (Q : VK) (E : XK) (h : sp_values_by K T vs H Q E) : t_values_by K T { nx := fun _ H' => Q .non H', rt := Q } (start n_values_by vs) H := by
  obtain ⟨S, v, u, t, f, r, c, m, dom, rfl, hr, hc, hm, hi, ⟨r1, r2, c1, c2, ok1, ok2, ok3, ok4⟩, tb, q⟩ := h
  obtain rfl := of_int hr
  obtain rfl := of_int hc
  have s0 : Sg T (hd S H) S H := ⟨dom, .same⟩
  have gt : GT T (hd S H) := GT.of tb dom
  have hR : ∀ {σ : L2.St} {G : Hp}, σ[0]? = some (some (.int r)) → EvR T (tVar 0) σ G r := fun h => ev_var h rep_int
  have hC : ∀ {σ : L2.St} {G : Hp}, σ[1]? = some (some (.int c)) → EvR T (tVar 1) σ G c := fun h => ev_var h rep_int
  refine q_asgO s0 (eo_dispT (x := ((1, 1) : Int × Int)) (y := (1 : Int)) (ev_tup2 ev_int ev_int) ev_int) fun p H1 np e1 eh hp => ?_
  have n1 := MS.init (T := T) dom .same np e1 eh hp trivial
  refine s_forS (D := { nx := _, rt := _, bk := _, ct := _ }) n1.s.up (sr_list (ev_call1 (en_lstRg1 (hR rfl) (by omega) (by omega)).r (by rw [rng_len]; omega))) (fun H2 i σ' H' => ∃ o5 o6 o7 o8, σ' = [some (.int r), some (.int c), some t, some (.ref f), some (.ref p), o5, o6, o7, o8] ∧ MS T S (hd (p :: S) H2) H p (oD (vbOut r c m i)) H') (fun H2 e2 => ⟨none, none, none, none, rfl, (show MS T S _ H p (oD (vbOut r c m 0)) _ from (n1.go e2).base)⟩) (fun H2 i σ' H' ⟨_, _, _, _, _, n⟩ => ⟨_, n.s⟩) ?_ ?_
  · rintro H2 i high vh σ' H' H'' e2 hih ⟨o5, o6, o7, o8, rfl, n⟩ e3 rx
    have rxh : Rep (hd (p :: S) H'') vh high := rx _ n.s
    have n3 := n.go e3
    have hih' : (highsOf r)[i]? = some high := hih
    refine s_forS (D := { nx := _, rt := _, bk := _, ct := _ }) n3.s.up (sr_list (ev_call1 (en_lstRg2 (hR rfl) (ev_opI0 (hR rfl) (hC rfl)) (by omega) (by omega) (by omega) (by omega)).r (by rw [rng_len]; omega))) (fun H4 j σ' H' => ∃ o6 o7 o8, σ' = [some (.int r), some (.int c), some t, some (.ref f), some (.ref p), some vh, o6, o7, o8] ∧ MS T S (hd (p :: S) H4) H p (oD (vbIn r c m high (vbOut r c m i) j)) H') (fun H4 e4 => ⟨o6, o7, o8, rfl, (show MS T S _ H p (oD (vbIn r c m high (vbOut r c m i) 0)) _ from (n3.go e4).base)⟩) (fun H4 i σ' H' ⟨_, _, _, _, n⟩ => ⟨_, n.s⟩) ?_ ?_
    · rintro H4 j wide vw σ' H5 H6 e4 hjw ⟨o6, o7, o8, rfl, n5⟩ e6 rx2
      have hjw' : (widesOf r c)[j]? = some wide := hjw
      have rw6 : Rep (hd S H6) vw wide := (rx2 _ n5.s).shown
      have n6 := n5.go e6
      have rh6 : Rep (hd S H6) vh high := n6.rep (rxh.le (e4.hd n3.s.dom))
      obtain ⟨k1, k2, k3⟩ := ok1 high (List.mem_of_getElem? hih') wide (List.mem_of_getElem? hjw')
      have l6 := n6.le.hd dom
      refine q_asg n6.rd (ev_times rfl (hi.le l6) (ev_opI0 (g := fun i j => i - j) (hR rfl) (ev_lenL (ev_var rfl rh6))) (ev_opI0 (g := fun i j => i - j) (hC rfl) (ev_lenL (ev_var rfl rw6))) k1) fun v7 H7 e7 r7 => ?_
      obtain rfl := of_int r7
      have n7 := n6.go e7
      have l7 := n7.le.hd dom
      have m7 := e7.hd n6.dom
      refine q_asg n7.rd (ev_call4s (hR rfl) (hC rfl) (ev_var rfl (hm.le l7)) (es_list (en_cat (ev_var rfl (rh6.le m7)) (ev_var rfl (rw6.le m7)) (by omega)).r) k2) fun v8 H8 e8 r8 => ?_
      have n8 := n7.go e8
      refine s_dputT n8.rd rfl (ev_var rfl r8) (ev_opI0 (g := fun i j => i + j) (ev_dget2T rfl (ev_var rfl r8) (ev_int (i := 0)) n8.see) (ev_var (x := mTimesOf (r - high.length) (c - wide.length)) rfl rep_int)) n8.see (by have := ok2 i high j hih'; omega) fun H9 e9 => ?_
      refine ⟨_, _, _, rfl, ?_⟩
      rw [vbIn_succ hjw']
      exact (n8.go e9).set (u := oD (vbStep r c m high (vbIn r c m high (vbOut r c m i) j) wide)) trivial
    · rintro H4 σ' H5 e4 ⟨o6, o7, o8, rfl, n5⟩
      refine ⟨_, _, _, _, rfl, ?_⟩
      rw [vbOut_succ hih']
      exact n5.down (n.s.le.trans ((e3.trans e4).hd n.s.dom))
  · rintro H2 σ' H' e2 ⟨o5, o6, o7, o8, rfl, n⟩
    have n' : MS T S (hd (p :: S) H2) H p (oD (vbOut r c m (highsOf r).length)) H' := n
    have l4 := n'.le.hd dom
    refine s_ret n'.rd (ev_callDg (f := mOrd) (P := okOrd) (m := mVals r c m) (fun _ _ _ _ => .inl) (gt.le l4) (eo_lock (p := p) (u := oD (vbOut r c m (highsOf r).length)) trivial trivial trivial n'.see fun od S1 H1 s1 => eo_dcT (p := fun e : (Int × Int) × Int => decide (0 < e.2)) (f := fun e : (Int × Int) × Int => e.1) (w := fun e => e.2) (sr_itemsT (n := 4) (p := p) (o := od) rfl ?_) tgm_pair ?_ fun x hx v' S' H' s rx => g_pair rx fun vx vy rx1 rx2 => ⟨rfl, rfl, et_test (ev_cmp (g := fun i j => decide (j < i)) (ev_var rfl rx2) ev_int), fun _ => ⟨ev_var rfl rx1, ev_var rfl rx2⟩⟩) ok4) fun y H3 e3 r3 => q _ _ (n'.le.trans e3) r3
    · rw [hd_out (hd_some (s1.le.soft n'.see trivial)).2, upd_same] <;> rfl
    · omega
theorem cal_values_by {k : Nat} (D : At K mg "values_by" s_values_by) (F : Fx mg) (C_subsets : Cal P w K mg base k "subsets" ["some"] (sp_subsets K T)) (C_times_of : Cal P w K mg base k "times_of" ["rows", "columns", "images"] (sp_times_of K T)) (C_within_of : Cal P w K mg base k "within_of" ["rows", "columns", "told", "lines"] (sp_within_of K T)) (C_ordered : Cal P w K mg base k "ordered" ["found"] (sp_ordered K T)) : Cal P w K mg base (k + 1) "values_by" ["rows", "columns", "told", "images"] (sp_values_by K T) :=
  mk_cal D sc_values_by (fun _ _ _ _ _ _ us hl => match us, hl with | [_, _, _, _], _ => rfl) (len_values_by rfl) (fun f cdv A outer s H E hr => der_values_by F C_subsets C_times_of C_within_of C_ordered hr) (fun vs H Q E h => pure_values_by vs H Q E h)
end K4
end
section
set_option Elab.async false
set_option linter.all false
set_option maxRecDepth 100000
set_option maxHeartbeats 4000000
namespace K4
open PySem PySem.Spec PyProof.Rows L2 PySem.W
variable {P : Program} {w : World} {K : PySem.W.Frag} {mg : Str → Option Value} {base : Heap} {T : List (Addr × Str)}

theorem IsLam.hide {S : List Addr} {H : Hp} {f : Addr} {q : Str} {ps : Arguments} {b : Expr} {sc : Scope} (dom : Dom S H) (h : IsLam H f q ps b sc) : IsLam (hd S H) f q ps b sc := by
  obtain ⟨c', h1, h2⟩ := h
  refine ⟨c', ?_, ?_⟩
  · rw [hd_out fun m => ?_]
    · exact h1
    · obtain ⟨o, ho, so⟩ := dom _ m
      rw [h1] at ho
      cases ho
      exact so
  · rw [hd_out fun m => ?_]
    · exact h2
    · obtain ⟨o, ho, so⟩ := dom _ m
      rw [h2] at ho
      cases ho
      exact so
theorem ev_valsby {σ : L2.St} {G : Hp} {q : Str} {l : Expr} (hq : ∀ H f, IsLam H f q (laA l) (laB l) (laS l) → IsImg H f) {ta tb tc : TE} {r c : Int} {m : Meas} (gt : GT T G) (ha : EvR T ta σ G r) (hb : EvR T tb σ G c) (hc : EvR T tc σ G m) (p : okVals r c m) : EvR T (tCall (sp_values_by K T) [] E0 (tCons ta (tCons tb (tCons tc (tCons (tLamV T q (laA l) (laB l) (laS l)) tNil))))) σ G (mOrd (mVals r c m)) := fun S H1 s Q qq =>
  ha S H1 s _ fun v H2 e2 r2 => hb S H2 (s.go e2) _ fun u H3 e3 r3 => hc S H3 ((s.go e2).go e3) _ fun w H4 e4 r4 => by
    have s2 := s.go e2
    have s3 := s2.go e3
    have s4 := s3.go e4
    exact ⟨s4.tabs gt, fun f H5 e5 hL => ⟨S, v, u, w, f, r, c, m, (s4.go e5).dom, rfl, r2.le (((e3.trans e4).trans e5).hd s2.dom), r3.le ((e4.trans e5).hd s3.dom), r4.le (e5.hd s4.dom), hq _ _ (hL.hide (s4.go e5).dom), p, (s4.go e5).tabs gt, fun y H6 e6 r6 => qq y H6 ((((e2.trans e3).trans e4).trans e5).trans e6) r6⟩⟩
def okOwn (r c : Int) (m : Meas) : Prop := okB r c ∧ r + c ≤ 12 ∧ okMeas r c m ∧ okVals r c m
def sp_own_values (K : PySem.W.Frag) (T : List (Addr × Str)) : Sp := Pu3x T okOwn fun r c m => mOrd (mVals r c m)
abbrev n_own_values : List Str := ["rows", "columns", "told"]
theorem sc_own_values : FnScope n_own_values ["rows", "columns", "told"] (defScope s_own_values) := ⟨rfl, rfl, rfl, by decide +kernel, rfl, by decide +kernel, by decide +kernel⟩
def t_own_values (K : PySem.W.Frag) (T : List (Addr × Str)) : TS := (tSeq (tDrop (tCall (sp_need_lines K T) [] E0 (tCons (tVar 0) (tCons (tVar 1) (tCons (tVar 2) tNil)))))
  (tRet (tCall (sp_values_by K T) [] E0 (tCons (tVar 0) (tCons (tVar 1) (tCons (tVar 2) (tCons (tLamV T qO (laA lamO) (laB lamO) (laS lamO)) tNil)))))))
theorem der_own_values {k : Nat} {f : Addr} {c Pt : Addr} {A : Around} {outer : List Env} {s : Shared} {H : Hp} {E : XK} (F : Fx mg) (LA : LamAt base mg T c Pt "own_values.<locals>.<lambda>") (C_need_lines : Cal P w K mg base k "need_lines" ["rows", "columns", "told"] (sp_need_lines K T)) (C_values_by : Cal P w K mg base k "values_by" ["rows", "columns", "told", "images"] (sp_values_by K T)) (hr : Room k (A.deeper (envOfC "own_values" (defScope s_own_values) s.heap.objs.size f (.ref c)))) :
    PSs (cxOf CX0 P w K mg base n_own_values "own_values" (defScope s_own_values) f (.ref c) A outer s H E).nox (defBody s_own_values) (t_own_values K T) :=
  (pss_cons (ps_expr (pe_cal C_need_lines hr (by rfl) (pa_cons (pv 0) (pa_cons (pv 1) (pa_cons (pv 2) pa_nil)))))
  (pss_one (ps_ret (pe_cal C_values_by hr (by rfl) (pa_cons (pv 0) (pa_cons (pv 1) (pa_cons (pv 2) (pa_cons (pe_lamV LA.tb rfl rfl LA.mem LA.un) pa_nil))))))))
theorem pure_own_values (vs : List V) (H : Hp) (Q : VK) (E : XK) (h : sp_own_values K T vs H Q E) : t_own_values K T { nx := fun _ H' => Q .non H', rt := Q } (start n_own_values vs) H := by
  obtain ⟨S, v, u, w, r, c, m, dom, rfl, hr, hc, hm, hx, ⟨b, b2, ok, ov⟩, tb, q⟩ := h
  have s0 : Sg T (hd S H) S H := ⟨dom, .same⟩
  have gt : GT T (hd S H) := GT.of tb dom
  refine q_drop s0 (ev_call3x gt (ev_var rfl hr) (ev_var rfl hc) (ex_var rfl hm hx) ⟨b, b2, ok⟩) fun H1 e1 => ?_
  have l1 := e1.hd dom
  exact s_ret (s0.go e1).up (ev_valsby (q := qO) (l := lamO) (fun _ _ => .inl) (gt.le l1) (ev_var rfl (hr.le l1)) (ev_var rfl (hc.le l1)) (ev_var rfl (hm.le l1)) ov) fun y H2 e2 r2 => q _ _ (e1.trans e2) r2
theorem cal_own_values {k : Nat} {c Pt : Addr} (D : AtL K mg "own_values" s_own_values c) (F : Fx mg) (LA : LamAt base mg T c Pt "own_values.<locals>.<lambda>") (C1 : Cal P w K mg base k "need_lines" ["rows", "columns", "told"] (sp_need_lines K T)) (C2 : Cal P w K mg base k "values_by" ["rows", "columns", "told", "images"] (sp_values_by K T)) : Cal P w K mg base (k + 1) "own_values" ["rows", "columns", "told"] (sp_own_values K T) :=
  mk_calL D sc_own_values (fun _ _ _ _ _ _ us hl => match us, hl with | [_, _, _], _ => rfl) (Pu3x.len rfl) (fun f A outer s H E hr => der_own_values F LA C1 C2 hr) (fun vs H Q E h => pure_own_values vs H Q E h)
def trStep (many : Int) (f : Int × Int) (e : (Int × Int) × Int) : Int × Int := mPlus f (mTimes (mRaised e.1 many) (e.2, 1))
def mTrace (r c : Int) (m : Meas) (many : Int) : Int × Int := (mOrd (mVals r c m)).items.foldl (trStep many) (0, 1)
def okTrace (r c : Int) (m : Meas) (many : Int) : Prop := okOwn r c m ∧ 0 ≤ many ∧ many ≤ 4 ∧ ∀ i e, (mOrd (mVals r c m)).items[i]? = some e → (0 < e.1.2 ∧ e.1.2 ≤ 64 ∧ -B30 ≤ e.1.1 ∧ e.1.1 ≤ B30) ∧ okP (mRaised e.1 many) (e.2, 1) ∧ -B30 ≤ e.2 ∧ e.2 ≤ B30 ∧ okP (((mOrd (mVals r c m)).items.take i).foldl (trStep many) (0, 1)) (mTimes (mRaised e.1 many) (e.2, 1))
def sp_trace (K : PySem.W.Frag) (T : List (Addr × Str)) : Sp := Pu4x T okTrace mTrace
abbrev n_trace : List Str := ["rows", "columns", "told", "many", "found", "value", "count"]
theorem sc_trace : FnScope n_trace ["rows", "columns", "told", "many"] (defScope s_trace) := ⟨rfl, rfl, rfl, by decide +kernel, rfl, by decide +kernel, by decide +kernel⟩
def t_trace (K : PySem.W.Frag) (T : List (Addr × Str)) : TS := (tSeq (tDrop (tCall (sp_need_lines K T) [] E0 (tCons (tVar 0) (tCons (tVar 1) (tCons (tVar 2) tNil)))))
  (tSeq (tDrop (tCall (sp_need_number K T) [] E0 (tCons (tVar 3) (tCons (tC (.int 0)) (tCons (tC (.int 200)) tNil)))))
  (tSeq (tAsg (tTup (tCons (tC (.int 0)) (tCons (tC (.int 1)) tNil))) (gName 4))
  (tSeq (tFor (iTup K (tCall (sp_values_by K T) [] E0 (tCons (tVar 0) (tCons (tVar 1) (tCons (tVar 2) (tCons (tLamV T qT (laA lamT) (laB lamT) (laS lamT)) tNil)))))) (gTup K 2 (gCons (gName 5) (gCons (gName 6) gNil)))
   (tAsg (tCall (sp_plus K T) [] E0 (tCons (tVar 4) (tCons (tCall (sp_times K T) [] E0 (tCons (tCall (sp_raised K T) [] E0 (tCons (tVar 5) (tCons (tVar 3) tNil))) (tCons (tTup (tCons (tVar 6) (tCons (tC (.int 1)) tNil))) tNil))) tNil))) (gName 4)))
  (tRet (tVar 4))))))
theorem der_trace {k : Nat} {f : Addr} {c Pt : Addr} {A : Around} {outer : List Env} {s : Shared} {H : Hp} {E : XK} (F : Fx mg) (LA : LamAt base mg T c Pt "trace.<locals>.<lambda>") (C_need_lines : Cal P w K mg base k "need_lines" ["rows", "columns", "told"] (sp_need_lines K T)) (C_need_number : Cal P w K mg base k "need_number" ["value", "least", "most"] (sp_need_number K T)) (C_values_by : Cal P w K mg base k "values_by" ["rows", "columns", "told", "images"] (sp_values_by K T)) (C_raised : Cal P w K mg base k "raised" ["one", "many"] (sp_raised K T)) (C_times : Cal P w K mg base k "times" ["one", "other"] (sp_times K T)) (C_plus : Cal P w K mg base k "plus" ["one", "other"] (sp_plus K T)) (hr : Room k (A.deeper (envOfC "trace" (defScope s_trace) s.heap.objs.size f (.ref c)))) :
    PSs (cxOf CX0 P w K mg base n_trace "trace" (defScope s_trace) f (.ref c) A outer s H E).nox (defBody s_trace) (t_trace K T) :=
  (pss_cons (ps_expr (pe_cal C_need_lines hr (by rfl) (pa_cons (pv 0) (pa_cons (pv 1) (pa_cons (pv 2) pa_nil)))))
  (pss_cons (ps_expr (pe_cal C_need_number hr (by rfl) (pa_cons (pv 3) (pa_cons pe_int (pa_cons (C8.pe_gc (by rfl) F.c_MOST_POWER) pa_nil)))))
  (pss_cons (ps_set (i := 4) sc_trace.nd rfl (.inl rfl) (pe_tup (pa_cons pe_int (pa_cons pe_int pa_nil))))
  (pss_cons (ps_for PassesOwn.never rfl (pi_tup (pe_cal C_values_by hr (by rfl) (pa_cons (pv 0) (pa_cons (pv 1) (pa_cons (pv 2) (pa_cons (pe_lamV LA.tb rfl rfl LA.mem LA.un) pa_nil)))))) (pg_tup rfl (pgs_cons (pg_name (i := 5) sc_trace.nd rfl (.inl rfl)) (pgs_cons (pg_name (i := 6) sc_trace.nd rfl (.inl rfl)) pgs_nil)))
   (pss_one (ps_set (i := 4) sc_trace.nd rfl (.inl rfl) (pe_cal C_plus hr (by rfl) (pa_cons (pv 4) (pa_cons (pe_cal C_times hr (by rfl) (pa_cons (pe_cal C_raised hr (by rfl) (pa_cons (pv 5) (pa_cons (pv 3) pa_nil))) (pa_cons (pe_tup (pa_cons (pv 6) (pa_cons pe_int pa_nil))) pa_nil))) pa_nil))))))
  (pss_one (ps_ret (pv 4)))))))
theorem pure_trace (vs : List V) (H : Hp) (Q : VK) (E : XK) (h : sp_trace K T vs H Q E) : t_trace K T { nx := fun _ H' => Q .non H', rt := Q } (start n_trace vs) H := by
  obtain ⟨S, v, u, w, z, r, c, m, many, dom, rfl, hr, hc, hm, hn, hx, ⟨⟨b, b2, ok, ov⟩, m1, m2, tr⟩, tb, q⟩ := h
  have s0 : Sg T (hd S H) S H := ⟨dom, .same⟩
  have gt : GT T (hd S H) := GT.of tb dom
  refine q_drop s0 (ev_call3x gt (ev_var rfl hr) (ev_var rfl hc) (ex_var rfl hm hx) ⟨b, b2, ok⟩) fun H1 e1 => ?_
  have s1 := s0.go e1
  have l1 := e1.hd dom
  refine q_drop s1.up (ev_call3 (ev_var rfl (hn.le l1)) ev_int ev_int ⟨m1, by omega⟩) fun H2 e2 => ?_
  have s2 := s1.go e2
  refine q_asg s2.up (ev_tup2 (ev_int (i := 0)) (ev_int (i := 1))) fun v4 H3 e3 r4 => ?_
  have s3 := s2.go e3
  have e13 := (e1.trans e2).trans e3
  have l3 := e13.hd dom
  refine q_forT s3.up (ev_valsby (q := qT) (l := lamT) (fun _ _ => .inr) (gt.le l3) (ev_var rfl (hr.le l3)) (ev_var rfl (hc.le l3)) (ev_var rfl (hm.le l3)) ov) (fun H4 i σ' H' => ∃ x4 o5 o6, σ' = [some v, some u, some w, some z, some x4, o5, o6] ∧ Le T H4 H' ∧ Sg T (hd S H4) S H' ∧ Rep (hd S H') x4 (((mOrd (mVals r c m)).items.take i).foldl (trStep many) (0, 1))) (fun H4 e4 => ⟨v4, none, none, rfl, .same, ⟨(s3.go e4).dom, .same⟩, r4.le (e4.hd s3.dom)⟩) (fun H4 i σ' H' ⟨_, _, _, _, _, s', _⟩ => ⟨S, s'⟩) ?_ ?_
  · rintro H4 i e ve σ' H5 H6 e4 hi ⟨x4, o5, o6, rfl, e5, s5, r5⟩ e6 rx
    have s6 := s5.go e6
    have rx' := rx S s5
    obtain ⟨k1, k2, k3, k4, k5⟩ := tr i e hi
    refine g_pair rx' fun va vb ra rb => ?_
    have lA := ((e13.trans e4).trans e5 |>.trans e6).hd dom
    have ht : ((mOrd (mVals r c m)).items.take (i + 1)).foldl (trStep many) (0, 1) = trStep many (((mOrd (mVals r c m)).items.take i).foldl (trStep many) (0, 1)) e := by
      rw [List.take_add_one, hi, List.foldl_append]
      rfl
    refine s_asg s6.up (ev_call2 (ev_var rfl (r5.le (e6.hd s5.dom))) (ev_call2 (ev_call2 (ev_var rfl ra) (ev_var rfl (hn.le lA)) ⟨m1, m2, k1⟩) (ev_tup2 (ev_var rfl rb) (ev_int (i := 1))) ⟨k2, k3, k4⟩) k5) fun x H7 e7 r7 => ?_
    exact ⟨x, _, _, rfl, (e5.trans e6).trans e7, s6.go e7, by rw [ht]; exact r7⟩
  · rintro H4 σ' H5 e4 ⟨x4, o5, o6, rfl, e5, s5, r5⟩
    rw [List.take_length] at r5
    exact s_ret s5.up (ev_var rfl r5) fun y H6 e6 r6 => q _ _ (((e13.trans e4).trans e5).trans e6) r6
theorem cal_trace {k : Nat} {c Pt : Addr} (D : AtL K mg "trace" s_trace c) (F : Fx mg) (LA : LamAt base mg T c Pt "trace.<locals>.<lambda>") (C1 : Cal P w K mg base k "need_lines" ["rows", "columns", "told"] (sp_need_lines K T)) (C2 : Cal P w K mg base k "need_number" ["value", "least", "most"] (sp_need_number K T)) (C3 : Cal P w K mg base k "values_by" ["rows", "columns", "told", "images"] (sp_values_by K T)) (C4 : Cal P w K mg base k "plus" ["one", "other"] (sp_plus K T)) (C5 : Cal P w K mg base k "times" ["one", "other"] (sp_times K T)) (C6 : Cal P w K mg base k "raised" ["one", "many"] (sp_raised K T)) : Cal P w K mg base (k + 1) "trace" ["rows", "columns", "told", "many"] (sp_trace K T) :=
  mk_calL D sc_trace (fun _ _ _ _ _ _ us hl => match us, hl with | [_, _, _, _], _ => rfl) (Pu4x.len rfl) (fun f A outer s H E hr => der_trace F LA C1 C2 C3 C6 C5 C4 hr) (fun vs H Q E h => pure_trace vs H Q E h)
end K4
end
section
set_option Elab.async false
set_option linter.all false
set_option maxRecDepth 100000
set_option maxHeartbeats 4000000
namespace K4
open PySem PySem.Spec PyProof.Rows L2 PySem.W
variable {P : Program} {w : World} {K : PySem.W.Frag} {mg : Str → Option Value} {base : Heap} {T : List (Addr × Str)}

def sp_law_taken (K : PySem.W.Frag) (T : List (Addr × Str)) : Sp := fun vs H Q _ => ∃ (S : List Addr) (G H0 : Hp) (p sc : Addr) (xs : List Int) (many : Int), vs = [.ref p, .int many] ∧ RowS K T S G H0 p sc xs H ∧ 0 < many ∧ many ≤ 1000 ∧ ∀ v H', RowS K T S G H0 p sc xs H' → 0 ≤ v → v < many → Le T (hd (p :: S) H) (hd (p :: S) H') → Q (.int v) H'
theorem len_law_taken {ps : List Str} (h : ps.length = 2) : ∀ vs H Q E, sp_law_taken K T vs H Q E → vs.length = ps.length := fun vs H Q E q => by
  obtain ⟨S, G, H0, p, sc, xs, many, rfl, _⟩ := q
  exact h.symm
theorem cdiv1000 {i m : Int} (h1 : 0 < m) (h2 : m ≤ 1000) : CDivW i m := cdiv h1 (by omega)
abbrev n_law_taken : List Str := ["_law_row", "_law_many", "_law_found", "_law_cell"]
theorem sc_law_taken : FnScope n_law_taken ["_law_row", "_law_many"] (defScope s_law_taken) := ⟨rfl, rfl, rfl, by decide +kernel, rfl, by decide +kernel, by decide +kernel⟩
def t_law_taken (K : PySem.W.Frag) (T : List (Addr × Str)) : TS := (tSeq (tIfS (tTest (tOp (rI0 fun i j => .bl (decide (j < i))) (tOp (rIxL K) (tVar 0) (tC (.int 3))) (tC (.int 0)))) (tSeq (tAsg (tOp (rI (fun _ j => 0 < j) fun i j => .int (i % j)) (tCB rInt1 (tCons (tOp (rIxL K) (tVar 0) (tC (.int 3))) tNil)) (tVar 1)) (gName 2))
  (tSeq (tAsg (tOp (rI CDivW fun i j => .int (i / j)) (tOp (rIxL K) (tVar 0) (tC (.int 3))) (tVar 1)) (gSub (tVar 0) (tC (.int 3)) rSetL))
  (tRet (tVar 2)))) tNext)
  (tSeq (tAsg (tOp (rI0 fun i j => .int (i + j)) (tOp (rIxL K) (tVar 0) (tC (.int 1))) (tC (.int 1))) (gSub (tVar 0) (tC (.int 1)) rSetL))
  (tSeq (tIfS (tTest (tOp (rI0 fun i j => .bl (decide (j < i))) (tOp (rIxL K) (tVar 0) (tC (.int 1))) (tCB (rLenS K) (tCons (tOp (rIxL K) (tVar 0) (tC (.int 0))) tNil)))) (tSeq (tAsg (tOp (rI (fun _ j => 0 < j) fun i j => .int (i % j)) (tCB rInt1 (tCons (tOp (rI0 fun i j => .int (i + j)) (tOp (rI CMul fun i j => .int (i * j)) (tOp (rIxL K) (tVar 0) (tC (.int 2))) (tC (.int 48271))) (tC (.int 11))) tNil)) (tC (.int 2147483647))) (gSub (tVar 0) (tC (.int 2)) rSetL))
  (tRet (tOp (rI (fun _ j => 0 < j) fun i j => .int (i % j)) (tCB rInt1 (tCons (tOp (rI CDivW fun i j => .int (i / j)) (tOp (rIxL K) (tVar 0) (tC (.int 2))) (tC (.int 7))) tNil)) (tVar 1)))) tNext)
  (tSeq (tAsg (tOp (rIxL K) (tOp (rIxL K) (tVar 0) (tC (.int 0))) (tOp (rI0 fun i j => .int (i - j)) (tOp (rIxL K) (tVar 0) (tC (.int 1))) (tC (.int 1)))) (gName 3))
  (tSeq (tAsg (tOp (rI (fun _ j => 0 < j) fun i j => .int (i % j)) (tCB rInt1 (tCons (tOp (rI0 fun i j => .int (i + j)) (tOp (rI0 fun i j => .int (i + j)) (tOp (rI CMul fun i j => .int (i * j)) (tOp (rIxL K) (tVar 0) (tC (.int 2))) (tC (.int 48271))) (tVar 3)) (tC (.int 11))) tNil)) (tC (.int 2147483647))) (gSub (tVar 0) (tC (.int 2)) rSetL))
  (tSeq (tIfS (tTest (tOp (rI0 fun i j => .bl (decide (j ≤ i))) (tVar 3) (tOp (rI CPow fun i j => .int (i ^ j.toNat)) (tC (.int 10)) (tC (.int 18))))) (tAsg (tOp (rI CDivW fun i j => .int (i / j)) (tVar 3) (tVar 1)) (gSub (tVar 0) (tC (.int 3)) rSetL)) tNext)
  (tRet (tOp (rI (fun _ j => 0 < j) fun i j => .int (i % j)) (tCB rInt1 (tCons (tVar 3) tNil)) (tVar 1)))))))))
theorem der_law_taken {k : Nat} {f : Addr} {cdv : Value} {A : Around} {outer : List Env} {s : Shared} {H : Hp} {E : XK} (F : Fx mg) (hr : Room k (A.deeper (envOfC "_law_taken" (defScope s_law_taken) s.heap.objs.size f cdv))) :
    PSs (cxOf CX0 P w K mg base n_law_taken "_law_taken" (defScope s_law_taken) f cdv A outer s H E).nox (defBody s_law_taken) (t_law_taken K T) :=
  (pss_cons (ps_if (pt_cmpR (op_gt) (pe_ix ix_list (pv 0) pe_int (fun _ _ => rfl)) pe_int (nomark _)) (pss_cons (ps_set (i := 2) sc_law_taken.nd rfl (.inl rfl) (pe_op op_mod (pe_callTy call_int1 (by rfl) F.b_int (by decide +kernel) (pa_cons (pe_ix ix_list (pv 0) pe_int (fun _ _ => rfl)) pa_nil)) (pv 1)))
  (pss_cons (ps_asg (pe_op op_fdivW (pe_ix ix_list (pv 0) pe_int (fun _ _ => rfl)) (pv 1)) (pg_sub (pv 0) pe_int set_list))
  (pss_one (ps_ret (pv 2))))) pss_nil)
  (pss_cons (ps_asg (pe_op op_add (pe_ix ix_list (pv 0) pe_int (fun _ _ => rfl)) pe_int) (pg_sub (pv 0) pe_int set_list))
  (pss_cons (ps_if (pt_cmpR (op_gt) (pe_ix ix_list (pv 0) pe_int (fun _ _ => rfl)) (pe_callB call_len_seq (by rfl) F.b_len (by decide +kernel) (pa_cons (pe_ix ix_list (pv 0) pe_int (fun _ _ => rfl)) pa_nil)) (nomark _)) (pss_cons (ps_asg (pe_op op_mod (pe_callTy call_int1 (by rfl) F.b_int (by decide +kernel) (pa_cons (pe_op op_add (pe_op op_mul (pe_ix ix_list (pv 0) pe_int (fun _ _ => rfl)) pe_int) pe_int) pa_nil)) pe_int) (pg_sub (pv 0) pe_int set_list))
  (pss_one (ps_ret (pe_op op_mod (pe_callTy call_int1 (by rfl) F.b_int (by decide +kernel) (pa_cons (pe_op op_fdivW (pe_ix ix_list (pv 0) pe_int (fun _ _ => rfl)) pe_int) pa_nil)) (pv 1))))) pss_nil)
  (pss_cons (ps_set (i := 3) sc_law_taken.nd rfl (.inl rfl) (pe_ix ix_list (pe_ix ix_list (pv 0) pe_int (fun _ _ => rfl)) (pe_op op_sub (pe_ix ix_list (pv 0) pe_int (fun _ _ => rfl)) pe_int) (fun _ _ => rfl)))
  (pss_cons (ps_asg (pe_op op_mod (pe_callTy call_int1 (by rfl) F.b_int (by decide +kernel) (pa_cons (pe_op op_add (pe_op op_add (pe_op op_mul (pe_ix ix_list (pv 0) pe_int (fun _ _ => rfl)) pe_int) (pv 3)) pe_int) pa_nil)) pe_int) (pg_sub (pv 0) pe_int set_list))
  (pss_cons (ps_if (pt_cmpR (op_ge) (pv 3) (pe_op op_pow pe_int pe_int) (nomark _)) (pss_one (ps_asg (pe_op op_fdivW (pv 3) (pv 1)) (pg_sub (pv 0) pe_int set_list))) pss_nil)
  (pss_one (ps_ret (pe_op op_mod (pe_callTy call_int1 (by rfl) F.b_int (by decide +kernel) (pa_cons (pv 3) pa_nil)) (pv 1))))))))))
theorem pure_law_taken (vs : List V) (H : Hp) (Q : VK) (E : XK) (h : sp_law_taken K T vs H Q E) : t_law_taken K T { nx := fun _ H' => Q .non H', rt := Q } (start n_law_taken vs) H := by
  obtain ⟨S, G, H0, p, sc, xs, many, rfl, ⟨i, s, r, n, hi, hx0⟩, m0, m1, q⟩ := h
  have hx := sq_le hx0 n.s.le
  have M : ∀ {σ : L2.St} {G : Hp}, σ[1]? = some (some (.int many)) → EvR T (tVar 1) σ G many := fun h => ev_var h rep_int
  have R : ∀ {σ : L2.St} {G : Hp} {i s r : Int}, σ[0]? = some (some (.ref p)) → G p = some (rowO sc i s r) → EvR T (tOp (rIxL K) (tVar 0) (tC (.int 3))) σ G r := fun h h2 => ev_rowG h h2 rfl rep_int
  have I1 : ∀ {σ : L2.St} {G : Hp} {i s r : Int}, σ[0]? = some (some (.ref p)) → G p = some (rowO sc i s r) → EvR T (tOp (rIxL K) (tVar 0) (tC (.int 1))) σ G i := fun h h2 => ev_rowG h h2 rfl rep_int
  have S1 : ∀ {σ : L2.St} {G : Hp} {i s r : Int}, σ[0]? = some (some (.ref p)) → G p = some (rowO sc i s r) → EvR T (tOp (rIxL K) (tVar 0) (tC (.int 2))) σ G s := fun h h2 => ev_rowG h h2 rfl rep_int
  refine q_if1 n.rd (et_test (ev_cmp (g := fun i j => decide (j < i)) (R rfl n.see) (ev_int (i := 0)))) (fun hb H1 e1 => ?_) fun hb H1 e1 => ?_
  · have n1 := n.go e1
    refine q_asg n1.rd (ev_opI (g := fun i j => i % j) (ev_intI (R rfl n1.see)) (M rfl) m0) fun v2 H2 e2 r2 => ?_
    obtain rfl := of_int r2
    have n2 := n1.go e2
    refine q_setRow (j := 3) n2.rd rfl n2.its rfl (ev_opI (g := fun i j => i / j) (R rfl n2.see) (M rfl) (cdiv1000 m0 m1)) fun H3 e3 => ?_
    have n3 := (n2.go e3).set (u := rowO sc i s (r / many)) trivial
    have x3 : SqL K (hd (p :: S) (upd H3 p (rowO sc i s (r / many)))) sc (xs.map V.int) := by
      rw [hd_upd List.mem_cons_self]
      exact sq_le hx (((e1.trans e2).trans e3).hd n.s.dom)
    exact s_ret n3.rd (ev_var (x := r % many) rfl rep_int) fun y H4 e4 r4 => by
      obtain rfl := of_int r4
      refine q _ _ ⟨i, s, _, n3.go e4, hi, hx0⟩ (Int.emod_nonneg _ (by omega)) (Int.emod_lt_of_pos _ m0) ?_
      refine Le.trans ?_ (e4.hd n3.s.dom)
      rw [hd_upd List.mem_cons_self]
      exact ((e1.trans e2).trans e3).hd n.s.dom
  · have n1 := n.go e1
    refine q_setRow (j := 1) n1.rd rfl n1.its rfl (ev_opI0 (g := fun i j => i + j) (I1 rfl n1.see) (ev_int (i := 1))) fun H2 e2 => ?_
    have n2 := (n1.go e2).set (u := rowO sc (i + 1) s r) trivial
    have l2 : Le T (hd (p :: S) H) (hd (p :: S) (upd H2 p (rowO sc (i + 1) s r))) := by
      rw [hd_upd List.mem_cons_self]
      exact (e1.trans e2).hd n.s.dom
    generalize hH2 : upd H2 p (rowO sc (i + 1) s r) = H3 at n2 l2
    have hH2' : upd H2 p (.lst ([.ref sc, .int i, .int s, .int r].set 1 (.int (i + 1)))) = H3 := hH2
    rw [hH2']
    have x2 := sq_le hx l2
    have xs0 : ∀ {σ : L2.St}, σ[0]? = some (some (.ref p)) → EvV T (tOp (rIxL K) (tVar 0) (tC (.int 0))) σ (hd S H3) (.ref sc) := fun h => evv_rowG h n2.see rfl
    refine q_if1 n2.rd (et_test (ev_cmp (g := fun i j => decide (j < i)) (I1 rfl n2.see) (ev_lenQ (xs0 rfl) (sq_shown x2)))) (fun hb H4 e4 => ?_) fun hb H4 e4 => ?_
    · have n4 := n2.go e4
      refine q_setRow (j := 2) n4.rd rfl n4.its rfl (ev_opI (g := fun i j => i % j) (ev_intI (ev_opI0 (g := fun i j => i + j) (ev_opI (g := fun i j => i * j) (S1 rfl n4.see) (ev_int (i := 48271)) (.inr (by decide))) (ev_int (i := 11)))) (ev_int (i := 2147483647)) (by decide)) fun H5 e5 => ?_
      have n5 := (n4.go e5).set (u := rowO sc (i + 1) ((s * 48271 + 11) % 2147483647) r) trivial
      have l5 : Le T (hd (p :: S) H) (hd (p :: S) (upd H5 p (rowO sc (i + 1) ((s * 48271 + 11) % 2147483647) r))) := by
        rw [hd_upd List.mem_cons_self]
        exact l2.trans ((e4.trans e5).hd n2.s.dom)
      exact s_ret n5.rd (ev_opI (g := fun i j => i % j) (ev_intI (ev_opI (g := fun i j => i / j) (S1 rfl n5.see) (ev_int (i := 7)) (cdiv1000 (by decide) (by decide)))) (M rfl) m0) fun y H6 e6 r6 => by
        obtain rfl := of_int r6
        have l6 := l5.trans (e6.hd n5.s.dom)
        exact q _ _ ⟨_, _, _, n5.go e6, by omega, hx0⟩ (Int.emod_nonneg _ (by omega)) (Int.emod_lt_of_pos _ m0) l6
    · have n4 := n2.go e4
      have hle : ¬ (xs.length : Int) < i + 1 := of_decide_eq_false hb
      obtain ⟨cell, hcell⟩ : ∃ y, atI xs (i + 1 - 1) = some y := by
        obtain ⟨y, h1, _⟩ := atI_in (xs := xs) (k := i + 1 - 1) (by omega) (by omega)
        exact ⟨y, h1⟩
      have l4 := l2.trans (e4.hd n2.s.dom)
      refine q_asg n4.rd (ev_ixQ (evv_rowG rfl n4.see rfl) (sq_shown (sq_le hx l4)) (ev_opI0 (g := fun i j => i - j) (I1 rfl n4.see) (ev_int (i := 1))) hcell) fun v3 H5 e5 r5 => ?_
      obtain rfl := of_int r5
      have n5 := n4.go e5
      refine q_setRow (j := 2) n5.rd rfl n5.its rfl (ev_opI (g := fun i j => i % j) (ev_intI (ev_opI0 (g := fun i j => i + j) (ev_opI0 (g := fun i j => i + j) (ev_opI (g := fun i j => i * j) (S1 rfl n5.see) (ev_int (i := 48271)) (.inr (by decide))) (ev_var (x := cell) rfl rep_int)) (ev_int (i := 11)))) (ev_int (i := 2147483647)) (by decide)) fun H6 e6 => ?_
      have n6 := (n5.go e6).set (u := rowO sc (i + 1) ((s * 48271 + cell + 11) % 2147483647) r) trivial
      have l6 : Le T (hd (p :: S) H) (hd (p :: S) (upd H6 p (rowO sc (i + 1) ((s * 48271 + cell + 11) % 2147483647) r))) := by
        rw [hd_upd List.mem_cons_self]
        exact l4.trans ((e5.trans e6).hd n4.s.dom)
      generalize hH6 : upd H6 p (rowO sc (i + 1) ((s * 48271 + cell + 11) % 2147483647) r) = H7 at n6 l6
      have hH6' : upd H6 p (.lst ([.ref sc, .int (i + 1), .int s, .int r].set 2 (.int ((s * 48271 + cell + 11) % 2147483647)))) = H7 := hH6
      rw [hH6']
      refine q_if1 n6.rd (et_test (ev_cmp (g := fun i j => decide (j ≤ i)) (ev_var (x := cell) rfl rep_int) (ev_opI (g := fun i j => i ^ j.toNat) (ev_int (i := 10)) (ev_int (i := 18)) ⟨by decide, by decide, by decide⟩))) (fun hb H8 e8 => ?_) fun hb H8 e8 => ?_
      · have n8 := n6.go e8
        refine s_setRow (j := 3) n8.rd rfl n8.its rfl (ev_opI (g := fun i j => i / j) (ev_var (x := cell) rfl rep_int) (M rfl) (cdiv1000 m0 m1)) fun H9 e9 => ?_
        have n9 := (n8.go e9).set (u := rowO sc (i + 1) ((s * 48271 + cell + 11) % 2147483647) (cell / many)) trivial
        have l9 : Le T (hd (p :: S) H) (hd (p :: S) (upd H9 p (rowO sc (i + 1) ((s * 48271 + cell + 11) % 2147483647) (cell / many)))) := by
          rw [hd_upd List.mem_cons_self]
          exact l6.trans ((e8.trans e9).hd n6.s.dom)
        exact s_ret n9.rd (ev_opI (g := fun i j => i % j) (ev_intI (ev_var (x := cell) rfl rep_int)) (M rfl) m0) fun y H10 e10 r10 => by
          obtain rfl := of_int r10
          have l10 := l9.trans (e10.hd n9.s.dom)
          exact q _ _ ⟨_, _, _, n9.go e10, by omega, hx0⟩ (Int.emod_nonneg _ (by omega)) (Int.emod_lt_of_pos _ m0) l10
      · have n8 := n6.go e8
        exact s_ret n8.rd (ev_opI (g := fun i j => i % j) (ev_intI (ev_var (x := cell) rfl rep_int)) (M rfl) m0) fun y H10 e10 r10 => by
          obtain rfl := of_int r10
          have l10 := (l6.trans (e8.hd n6.s.dom)).trans (e10.hd n8.s.dom)
          exact q _ _ ⟨_, _, _, n8.go e10, by omega, hx0⟩ (Int.emod_nonneg _ (by omega)) (Int.emod_lt_of_pos _ m0) l10
theorem cal_law_taken {k : Nat} (D : At K mg "_law_taken" s_law_taken) (F : Fx mg) : Cal P w K mg base (k + 1) "_law_taken" ["_law_row", "_law_many"] (sp_law_taken K T) :=
  mk_cal D sc_law_taken (fun _ _ _ _ _ _ us hl => match us, hl with | [_, _], _ => rfl) (len_law_taken rfl) (fun f cdv A outer s H E hr => der_law_taken F hr) (fun vs H Q E h => pure_law_taken vs H Q E h)
end K4
end
section
set_option Elab.async false
set_option linter.all false
set_option maxRecDepth 100000
set_option maxHeartbeats 4000000
namespace K4
open PySem PySem.Spec PyProof.Rows L2 PySem.W
variable {P : Program} {w : World} {K : PySem.W.Frag} {mg : Str → Option Value} {base : Heap} {T : List (Addr × Str)}

def PuPick (α : Type) [DecidableEq α] [Datum α] (K : PySem.W.Frag) (T : List (Addr × Str)) : Sp := fun vs H Q _ => ∃ (S : List Addr) (G H0 : Hp) (p sc : Addr) (xs : List Int) (v : V) (things : List α), vs = [.ref p, v] ∧ RowS K T S G H0 p sc xs H ∧ Rep (hd (p :: S) H) v things ∧ 0 < things.length ∧ things.length ≤ 1000 ∧ ∀ w x H', RowS K T S G H0 p sc xs H' → x ∈ things → Rep (hd (p :: S) H') w x → Le T (hd (p :: S) H) (hd (p :: S) H') → Q w H'
def sp_law_pick (K : PySem.W.Frag) (T : List (Addr × Str)) : Sp := fun vs H Q E => PuPick Int K T vs H Q E ∨ PuPick (Int × Int) K T vs H Q E
theorem PuPick.len {α : Type} [DecidableEq α] [Datum α] {ps : List Str} (h : ps.length = 2) {vs : List V} {H : Hp} {Q : VK} {E : XK} (q : PuPick α K T vs H Q E) : vs.length = ps.length := by
  obtain ⟨S, G, H0, p, sc, xs, v, things, rfl, _⟩ := q
  exact h.symm
abbrev n_law_pick : List Str := ["_law_row", "_law_things"]
theorem sc_law_pick : FnScope n_law_pick ["_law_row", "_law_things"] (defScope s_law_pick) := ⟨rfl, rfl, rfl, by decide +kernel, rfl, by decide +kernel, by decide +kernel⟩
def t_law_pick (K : PySem.W.Frag) (T : List (Addr × Str)) : TS := (tRet (tOp (rIxL K) (tVar 1) (tCall (sp_law_taken K T) [] E0 (tCons (tVar 0) (tCons (tCB (rLenS K) (tCons (tVar 1) tNil)) tNil)))))
theorem der_law_pick {k : Nat} {f : Addr} {cdv : Value} {A : Around} {outer : List Env} {s : Shared} {H : Hp} {E : XK} (F : Fx mg) (C_law_taken : Cal P w K mg base k "_law_taken" ["_law_row", "_law_many"] (sp_law_taken K T)) (hr : Room k (A.deeper (envOfC "_law_pick" (defScope s_law_pick) s.heap.objs.size f cdv))) :
    PSs (cxOf CX0 P w K mg base n_law_pick "_law_pick" (defScope s_law_pick) f cdv A outer s H E).nox (defBody s_law_pick) (t_law_pick K T) :=
  (pss_one (ps_ret (pe_ix ix_list (pv 1) (pe_cal C_law_taken hr (by rfl) (pa_cons (pv 0) (pa_cons (pe_callB call_len_seq (by rfl) F.b_len (by decide +kernel) (pa_cons (pv 1) pa_nil)) pa_nil))) (fun _ _ => rfl))))
theorem pick_go {α : Type} [DecidableEq α] [Datum α] (vs : List V) (H : Hp) (Q : VK) (E : XK) (h : PuPick α K T vs H Q E) : t_law_pick K T { nx := fun _ H' => Q .non H', rt := Q } (start n_law_pick vs) H := by
  obtain ⟨S, G, H0, p, sc, xs, v, things, rfl, n, hv, l0, l1, q⟩ := h
  refine ⟨v, rfl, .ref p, rfl, ev_lenL (K := K) (σ := start n_law_pick [.ref p, v]) (ta := tVar 1) (ev_var rfl hv.shown) S H n.rd _ fun w H1 e1 r1 => ?_⟩
  obtain rfl := of_int r1
  refine ⟨S, G, H0, p, sc, xs, (things.length : Int), rfl, n.go e1, by omega, by omega, fun j H2 n2 j0 j1 l2 => ?_⟩
  obtain ⟨x, hx, hm⟩ := atI_in j0 j1
  have le2 := (e1.hd n.ms.dom).trans l2
  obtain ⟨a, ys, rfl, hL, hA⟩ := of_lst (hv.le le2)
  obtain ⟨y, hy, ry⟩ := atI_rep hA hx
  exact ⟨a, ys, j, y, rfl, rfl, .of (hd_some hL).1, hy, q _ x H2 n2 hm ry le2⟩
theorem pure_law_pick (vs : List V) (H : Hp) (Q : VK) (E : XK) (h : sp_law_pick K T vs H Q E) : t_law_pick K T { nx := fun _ H' => Q .non H', rt := Q } (start n_law_pick vs) H := h.elim (pick_go vs H Q E) (pick_go vs H Q E)
theorem cal_law_pick {k : Nat} (D : At K mg "_law_pick" s_law_pick) (F : Fx mg) (C_law_taken : Cal P w K mg base k "_law_taken" ["_law_row", "_law_many"] (sp_law_taken K T)) : Cal P w K mg base (k + 1) "_law_pick" ["_law_row", "_law_things"] (sp_law_pick K T) :=
  mk_cal D sc_law_pick (fun _ _ _ _ _ _ us hl => match us, hl with | [_, _], _ => rfl) (fun _ _ _ _ h => h.elim (fun h => h.len rfl) (fun h => h.len rfl)) (fun f cdv A outer s H E hr => der_law_pick F C_law_taken hr) (fun vs H Q E h => pure_law_pick vs H Q E h)
def boards : List (Int × Int) := [(1, 1), (1, 2), (2, 1), (2, 2), (1, 3), (2, 2)]
def sp_law_board (K : PySem.W.Frag) (T : List (Addr × Str)) : Sp := fun vs H Q _ => ∃ (S : List Addr) (G H0 : Hp) (p sc : Addr) (xs : List Int), vs = [.ref p] ∧ RowS K T S G H0 p sc xs H ∧ ∀ w x H', RowS K T S G H0 p sc xs H' → x ∈ boards → Rep (hd (p :: S) H') w x → Le T (hd (p :: S) H) (hd (p :: S) H') → Q w H'
theorem len_law_board {ps : List Str} (h : ps.length = 1) : ∀ vs H Q E, sp_law_board K T vs H Q E → vs.length = ps.length := fun vs H Q E q => by
  obtain ⟨S, G, H0, p, sc, xs, rfl, _⟩ := q
  exact h.symm
abbrev n_law_board : List Str := ["_law_row"]
theorem sc_law_board : FnScope n_law_board ["_law_row"] (defScope s_law_board) := ⟨rfl, rfl, rfl, by decide +kernel, rfl, by decide +kernel, by decide +kernel⟩
def t_law_board (K : PySem.W.Frag) (T : List (Addr × Str)) : TS := (tRet (tCall (sp_law_pick K T) [] E0 (tCons (tVar 0) (tCons (tLst (tCons (tTup (tCons (tC (.int 1)) (tCons (tC (.int 1)) tNil))) (tCons (tTup (tCons (tC (.int 1)) (tCons (tC (.int 2)) tNil))) (tCons (tTup (tCons (tC (.int 2)) (tCons (tC (.int 1)) tNil))) (tCons (tTup (tCons (tC (.int 2)) (tCons (tC (.int 2)) tNil))) (tCons (tTup (tCons (tC (.int 1)) (tCons (tC (.int 3)) tNil))) (tCons (tTup (tCons (tC (.int 2)) (tCons (tC (.int 2)) tNil))) tNil))))))) tNil))))
theorem der_law_board {k : Nat} {f : Addr} {cdv : Value} {A : Around} {outer : List Env} {s : Shared} {H : Hp} {E : XK} (F : Fx mg) (C_law_pick : Cal P w K mg base k "_law_pick" ["_law_row", "_law_things"] (sp_law_pick K T)) (hr : Room k (A.deeper (envOfC "_law_board" (defScope s_law_board) s.heap.objs.size f cdv))) :
    PSs (cxOf CX0 P w K mg base n_law_board "_law_board" (defScope s_law_board) f cdv A outer s H E).nox (defBody s_law_board) (t_law_board K T) :=
  (pss_one (ps_ret (pe_cal C_law_pick hr (by rfl) (pa_cons (pv 0) (pa_cons (pe_lst (pa_cons (pe_tup (pa_cons pe_int (pa_cons pe_int pa_nil))) (pa_cons (pe_tup (pa_cons pe_int (pa_cons pe_int pa_nil))) (pa_cons (pe_tup (pa_cons pe_int (pa_cons pe_int pa_nil))) (pa_cons (pe_tup (pa_cons pe_int (pa_cons pe_int pa_nil))) (pa_cons (pe_tup (pa_cons pe_int (pa_cons pe_int pa_nil))) (pa_cons (pe_tup (pa_cons pe_int (pa_cons pe_int pa_nil))) pa_nil))))))) pa_nil)))))
theorem pure_law_board (vs : List V) (H : Hp) (Q : VK) (E : XK) (h : sp_law_board K T vs H Q E) : t_law_board K T { nx := fun _ H' => Q .non H', rt := Q } (start n_law_board vs) H := by
  obtain ⟨S, G, H0, p, sc, xs, rfl, n, q⟩ := h
  refine ⟨.ref p, rfl, en_lst (eas_cons (ev_tup2 ev_int ev_int) (eas_cons (ev_tup2 ev_int ev_int) (eas_cons (ev_tup2 ev_int ev_int) (eas_cons (ev_tup2 ev_int ev_int) (eas_cons (ev_tup2 ev_int ev_int) (eas_cons (ev_tup2 ev_int ev_int) eas_nil)))))) (by decide) (p :: S) H n.ms.up _ fun l vs H1 nl e1 le1 hl rl => ?_⟩
  refine .inr ⟨S, G, H0, p, sc, xs, .ref l, boards, rfl, n.go e1, rep_lst (by rw [hd_out nl]; exact hl) (rl.le (le_show (T := T))), by decide, by decide, fun w x H2 n2 hm rx le2 => q w x H2 n2 hm rx ((e1.hd n.ms.dom).trans le2)⟩
theorem cal_law_board {k : Nat} (D : At K mg "_law_board" s_law_board) (F : Fx mg) (C_law_pick : Cal P w K mg base k "_law_pick" ["_law_row", "_law_things"] (sp_law_pick K T)) : Cal P w K mg base (k + 1) "_law_board" ["_law_row"] (sp_law_board K T) :=
  mk_cal D sc_law_board (fun _ _ _ _ _ _ us hl => match us, hl with | [_], _ => rfl) (len_law_board rfl) (fun f cdv A outer s H E hr => der_law_board F C_law_pick hr) (fun vs H Q E h => pure_law_board vs H Q E h)
end K4
end
section
set_option Elab.async false
set_option linter.all false
set_option maxRecDepth 100000
set_option maxHeartbeats 4000000
namespace K4
open PySem PySem.Spec PyProof.Rows L2 PySem.W
variable {P : Program} {w : World} {K : PySem.W.Frag} {mg : Str → Option Value} {base : Heap} {T : List (Addr × Str)}

abbrev Throws := List (List Int × Int)
def okThrow (k : Int) (e : List Int × Int) : Prop := e.1.length ≤ 3 ∧ (∀ x ∈ e.1, 0 ≤ x ∧ x < k) ∧ 1 ≤ e.2 ∧ e.2 ≤ 4
def sp_law_throws (K : PySem.W.Frag) (T : List (Addr × Str)) : Sp := fun vs H Q _ => ∃ (S : List Addr) (G H0 : Hp) (p sc : Addr) (xs : List Int) (high wide most : Int), vs = [.ref p, .int high, .int wide, .int most] ∧ RowS K T S G H0 p sc xs H ∧ 0 < high + wide ∧ high + wide ≤ 1000 ∧ 0 < most ∧ most ≤ 1000 ∧
  ∀ F (fs : Throws) H', RowS K T S G H0 p sc xs H' → Rep (hd (p :: S) H') (.ref F) fs → 1 ≤ fs.length → (fs.length : Int) ≤ most → (∀ e ∈ fs, okThrow (high + wide) e) → Le T (hd (p :: S) H) (hd (p :: S) H') → Q (.ref F) H'
theorem len_law_throws {ps : List Str} (h : ps.length = 4) : ∀ vs H Q E, sp_law_throws K T vs H Q E → vs.length = ps.length := fun vs H Q E q => by
  obtain ⟨S, G, H0, p, sc, xs, high, wide, most, rfl, _⟩ := q
  exact h.symm
abbrev n_law_throws : List Str := ["_law_row", "_law_high", "_law_wide", "_law_most", "_law_found", "_law_step", "_law_lines", "_law_at"]
theorem sc_law_throws : FnScope n_law_throws ["_law_row", "_law_high", "_law_wide", "_law_most"] (defScope s_law_throws) := ⟨rfl, rfl, rfl, by decide +kernel, rfl, by decide +kernel, by decide +kernel⟩
def t_law_throws (K : PySem.W.Frag) (T : List (Addr × Str)) : TS := (tSeq (tAsg (tLst tNil) (gName 4))
  (tSeq (tFor (iRng1 (tCons (tOp (rI0 fun i j => .int (i + j)) (tC (.int 1)) (tCall (sp_law_taken K T) [] E0 (tCons (tVar 0) (tCons (tVar 3) tNil)))) tNil)) (gName 5)
   (tSeq (tAsg (tLc (iRng1 (tCons (tCall (sp_law_pick K T) [] E0 (tCons (tVar 0) (tCons (tLst (tCons (tC (.int 0)) (tCons (tC (.int 1)) (tCons (tC (.int 1)) (tCons (tC (.int 1)) (tCons (tC (.int 2)) (tCons (tC (.int 3)) tNil))))))) tNil))) tNil)) (gName 7) tYes (tCall (sp_law_taken K T) [] E0 (tCons (tVar 0) (tCons (tOp (rI0 fun i j => .int (i + j)) (tVar 1) (tVar 2)) tNil))) [7]) (gName 6))
  (tDrop (tBM K "list" rAppend (tVar 4) (tCons (tTup (tCons (tVar 6) (tCons (tOp (rI0 fun i j => .int (i + j)) (tC (.int 1)) (tCall (sp_law_taken K T) [] E0 (tCons (tVar 0) (tCons (tC (.int 4)) tNil)))) tNil))) tNil)))))
  (tRet (tVar 4))))
theorem der_law_throws {k : Nat} {f : Addr} {cdv : Value} {A : Around} {outer : List Env} {s : Shared} {H : Hp} {E : XK} (F : Fx mg) (C_law_taken : Cal P w K mg base k "_law_taken" ["_law_row", "_law_many"] (sp_law_taken K T)) (C_law_pick : Cal P w K mg base k "_law_pick" ["_law_row", "_law_things"] (sp_law_pick K T)) (hr : Room k (A.deeper (envOfC "_law_throws" (defScope s_law_throws) s.heap.objs.size f cdv))) :
    PSs (cxOf CX0 P w K mg base n_law_throws "_law_throws" (defScope s_law_throws) f cdv A outer s H E).nox (defBody s_law_throws) (t_law_throws K T) :=
  (pss_cons (ps_set (i := 4) sc_law_throws.nd rfl (.inl rfl) (pe_lst pa_nil))
  (pss_cons (ps_for PassesOwn.never rfl (pi_range1 (by rfl) F.b_range (pa_cons (pe_op op_add pe_int (pe_cal C_law_taken hr (by rfl) (pa_cons (pv 0) (pa_cons (pv 3) pa_nil)))) pa_nil)) (pg_name (i := 5) sc_law_throws.nd rfl (.inl rfl))
   (pss_cons (ps_setLc (i := 6) (own := [("_law_at", 7)]) (g := (gName 7)) (tt := tYes) rfl sc_law_throws.nd rfl rfl (sw_true rfl rfl rfl (by decide +kernel)) (pi_range1 (by rfl) F.b_range (pa_cons (pe_cal C_law_pick hr (by rfl) (pa_cons (pv 0) (pa_cons (pe_lst (pa_cons pe_int (pa_cons pe_int (pa_cons pe_int (pa_cons pe_int (pa_cons pe_int (pa_cons pe_int pa_nil))))))) pa_nil))) pa_nil)) (blkOk_by (own := [("_law_at", 7)]) (N := n_law_throws) (sc := defScope s_law_throws) (by decide +kernel)) (fun _ _ _ _ _ => (pg_name (i := 7) sc_law_throws.nd rfl (.inl rfl))) (fun _ _ _ _ _ => pts_nil) (fun _ _ _ _ _ => (pe_cal C_law_taken hr (by rfl) (pa_cons (pv 0) (pa_cons (pe_op op_add (pv 1) (pv 2)) pa_nil)))))
  (pss_one (ps_expr (pe_bm PySem.F.plainAttrs_list PySem.F.slot_list_append PySem.F.type_list_append mt_append (pv 4) (pa_cons (pe_tup (pa_cons (pv 6) (pa_cons (pe_op op_add pe_int (pe_cal C_law_taken hr (by rfl) (pa_cons (pv 0) (pa_cons pe_int pa_nil)))) pa_nil))) pa_nil))))))
  (pss_one (ps_ret (pv 4)))))
theorem pure_law_throws (vs : List V) (H : Hp) (Q : VK) (E : XK) (h : sp_law_throws K T vs H Q E) : t_law_throws K T { nx := fun _ H' => Q .non H', rt := Q } (start n_law_throws vs) H := by
  obtain ⟨S, G, H0, p, sc, xs, high, wide, most, rfl, n, hw0, hw1, m0, m1, q⟩ := h
  refine q_asgN n.ms.up (xs := ([] : Throws)) (en_lst eas_nil (by decide)) fun F vs H1 nF e1 eh hF rF => ?_
  obtain rfl := rF.nil_of
  have fA := fr_new eh
  have fG := fr_le n.ms.le fA
  have f0 : ∀ o, H0 F = some o → ∃ ps, o = .tbl ps := fun o ho => Classical.byContradiction fun h2 => by
    have h3 := n.le.ext F o ho fun ps z => h2 ⟨ps, z⟩
    exact h2 (fA o (by rw [hd_out nF]; exact h3))
  have n1 := n.go e1
  refine ⟨.ref p, rfl, .int most, rfl, S, G, H0, p, sc, xs, most, rfl, n1, m0, m1, fun v H2 n2 v0 v1 le2 => ⟨1, v, rfl, rfl, ?_⟩⟩
  have hF2 : hd (p :: S) H2 F = some (.lst []) := le2.soft (o := .lst []) (by rw [hd_out nF]; exact hF) trivial
  have e12 := (e1.hd n.ms.dom).trans le2
  refine s_forN (n := 1 + v) (j := 5) (D := { nx := _, rt := _, bk := _, ct := _ }) (by omega) (by omega) (fun i σ' H' => ∃ o5 o6 o7 ws, ∃ fs : Throws, σ' = [some (.ref p), some (.int high), some (.int wide), some (.int most), some (.ref F), o5, o6, o7] ∧ RowS K T S G H0 p sc xs H' ∧ hd (p :: S) H' F = some (.lst ws) ∧ RepAll (hd [F] (hd (p :: S) H')) ws fs ∧ fs.length = i ∧ (∀ e ∈ fs, okThrow (high + wide) e) ∧ Le T (hd (p :: S) H) (hd (p :: S) H')) ⟨none, none, none, [], [], rfl, n2, hF2, repAll_nil, rfl, (fun e h => nomatch h), e12⟩ ?_ ?_
  · rintro i σ' H' hi ⟨o5, o6, o7, ws, fs, rfl, n3, hF3, r3, l3, ok3, le3⟩
    refine q_lcNum (P := fun x H5 => RowS K T S G H0 p sc xs H5 ∧ 0 ≤ x ∧ x ≤ 3 ∧ Le T (hd (p :: S) H') (hd (p :: S) H5)) (fun Q' q' => ?_) fun x H5 ⟨n5, x0, x3, e35⟩ => ?_
    · refine ⟨.ref p, rfl, en_lst (xs := [0, 1, 1, 1, 2, 3]) (eas_cons ev_int (eas_cons ev_int (eas_cons ev_int (eas_cons ev_int (eas_cons ev_int (eas_cons ev_int eas_nil)))))) (by decide) (p :: S) H' n3.ms _ fun l vs H4 nl e4 eh4 hl rl => ?_⟩
      refine .inl ⟨S, G, H0, p, sc, xs, .ref l, [0, 1, 1, 1, 2, 3], rfl, n3.go e4, rep_lst (by rw [hd_out nl]; exact hl) (rl.le (le_show (T := T))), by decide, by decide, fun w x H5 n5 hm rx le5 => ?_⟩
      obtain rfl := of_int rx
      simp only [List.mem_cons, List.not_mem_nil, or_false] at hm
      exact q' x H5 ⟨n5, by omega, by omega, (e4.hd n3.ms.dom).trans le5⟩
    refine tLc_draws (n := x) (many := high + wide) x0 (by omega) n5 (fun _ => rfl) (fun j H6 n6 Q6 q6 => ⟨.ref p, rfl, .int high, rfl, .int wide, rfl, high, wide, rfl, rfl, S, G, H0, p, sc, xs, high + wide, rfl, n6, hw0, hw1, q6⟩) fun L zs H6 fL n6 hL nL hlen hz le6 => ?_
    have e36 := e35.trans le6
    have hF6 := e36.soft hF3 trivial
    refine ⟨.ref F, rfl, .inl ⟨rfl, _, .of (hd_some hF6).1⟩, .ref L, rfl, .ref p, rfl, S, G, H0, p, sc, xs, 4, rfl, n6, by decide, by decide, fun y H7 n7 y0 y1 le7 => ⟨1, y, rfl, rfl, by show (2 : Nat) ≤ sizeLine; decide, fun t ht => ?_⟩⟩
    have e37 := e36.trans le7
    have hF7 := e37.soft hF3 trivial
    have nt : t ∉ p :: S := n7.ms.fresh ht
    have s7 := n7.ms.up
    have e8 : Le T (hd (p :: S) H7) (hd (p :: S) (upd H7 t (.tup [.ref L, .int (1 + y)]))) := (Le.new (T := T) ht).hd s7.dom
    have n8 := n7.go (Le.new (T := T) (o := .tup [.ref L, .int (1 + y)]) ht)
    have hF8 := e8.soft hF7 trivial
    have hFr : H7 F = some (.lst ws) := (hd_some hF7).1
    have nFt : F ≠ t := fun z => by
      rw [z, ht] at hFr
      cases hFr
    have hws : ws.length = i := by rw [← l3]; exact r3.length
    refine ⟨F, ws, .ref t, rfl, rfl, (hd_some hF8).1, sz_lt (by omega), ?_⟩
    have hL7 : hd (p :: S) H7 L = some (.lst (zs.map V.int)) := le7.soft (o := .lst (zs.map V.int)) (by rw [hd_out nL]; exact hL) trivial
    have nLF : L ≠ F := fun z => by
      have h5 := (hd_some (e35.soft hF3 trivial)).1
      rw [← z, fL] at h5
      cases h5
    have nLt : L ≠ t := fun z => by
      have h5 := (hd_some hL7).1
      rw [z, ht] at h5
      cases h5
    refine ⟨_, _, _, ws ++ [.ref t], fs ++ [(zs, 1 + y)], rfl, n8.mut nF fG f0 (hd_some hF8).1 trivial, ?_, ?_, by simp [l3], ?_, ?_⟩
    · rw [hd_out nF, upd_same]
    · rw [hd_new nF, hd_upd List.mem_cons_self]
      have eF : Le T (hd [F] (hd (p :: S) H')) (hd [F] (hd (p :: S) (upd H7 t (.tup [.ref L, .int (1 + y)])))) := (e37.trans e8).hd fun b hb => by
        rw [List.mem_singleton.mp hb]
        exact ⟨_, hF3, trivial⟩
      refine (r3.le eF).append (.one (rep_pair (x := .ref L) (y := .int (1 + y)) ?_ (rep_lst (xs := zs.map V.int) ?_ (repAll_ints zs)) rep_int))
      · rw [hd_out (by simpa using nFt.symm), hd_out nt, upd_same]
      · rw [hd_out (by simpa using nLF)]
        exact e8.soft hL7 trivial
    · intro e he
      rcases List.mem_append.mp he with h | h
      · exact ok3 e h
      · rw [List.mem_singleton.mp h]
        exact ⟨by show zs.length ≤ 3; omega, hz, by show 1 ≤ 1 + y; omega, by show 1 + y ≤ 4; omega⟩
    · rw [hd_new nF]
      exact ((le3.trans e37).trans e8).mutG fA hF8 trivial
  · rintro σ' H' ⟨o5, o6, o7, ws, fs, rfl, n3, hF3, r3, l3, ok3, le3⟩
    exact ⟨.ref F, rfl, q F fs H' n3 (rep_lst hF3 (r3.le (le_show (T := T) (S := [])))) (by omega) (by omega) ok3 le3⟩
theorem cal_law_throws {k : Nat} (D : At K mg "_law_throws" s_law_throws) (F : Fx mg) (C_law_taken : Cal P w K mg base k "_law_taken" ["_law_row", "_law_many"] (sp_law_taken K T)) (C_law_pick : Cal P w K mg base k "_law_pick" ["_law_row", "_law_things"] (sp_law_pick K T)) : Cal P w K mg base (k + 1) "_law_throws" ["_law_row", "_law_high", "_law_wide", "_law_most"] (sp_law_throws K T) :=
  mk_cal D sc_law_throws (fun _ _ _ _ _ _ us hl => match us, hl with | [_, _, _, _], _ => rfl) (len_law_throws rfl) (fun f cdv A outer s H E hr => der_law_throws F C_law_taken C_law_pick hr) (fun vs H Q E h => pure_law_throws vs H Q E h)
end K4
end
section
set_option Elab.async false
set_option linter.all false
set_option maxRecDepth 100000
set_option maxHeartbeats 4000000
namespace K4
open PySem PySem.Spec PyProof.Rows L2 PySem.W
variable {P : Program} {w : World} {K : PySem.W.Frag} {mg : Str → Option Value} {base : Heap} {T : List (Addr × Str)}

theorem atI_get {α : Type} {xs : List α} {i : Int} (d : α) (h0 : 0 ≤ i) (h1 : i < xs.length) : atI xs i = some (xs.getD i.toNat d) := by
  unfold atI ixN
  rw [if_pos h0, if_pos h1]
  have h2 : i.toNat < xs.length := by omega
  show xs[i.toNat]? = _
  rw [List.getElem?_eq_getElem h2, List.getD_eq_getElem?_getD, List.getElem?_eq_getElem h2] <;> rfl
theorem rng_mem {n : Nat} {x : Int} (h : x ∈ rng 0 n) : 0 ≤ x ∧ x < n := by
  obtain ⟨i, hi⟩ := List.getElem?_of_mem h
  obtain ⟨h1, h2⟩ := rng_at hi
  omega
abbrev Mat := List (List Int)
def mAt (m : Mat) (i j : Int) : Int := (m.getD i.toNat []).getD j.toNat 0
def mProd (a b : Mat) : Mat := (rng 0 (a.length : Int).toNat).map fun i => (rng 0 (a.length : Int).toNat).map fun j => ((rng 0 (a.length : Int).toNat).map fun k => mAt a i k * mAt b k j).sum
def okProd (a b : Mat) : Prop := a.length ≤ 1000 ∧ b.length = a.length ∧ (∀ row ∈ a, row.length = a.length) ∧ ∀ row ∈ b, row.length = a.length ∧ ∀ x ∈ row, -(2 ^ 64) < x ∧ x < 2 ^ 64
def sp_law_product (K : PySem.W.Frag) (T : List (Addr × Str)) : Sp := Pu3 T (fun a b (_ : Int) => okProd a b) fun a b _ => mProd a b
theorem getD_mem {α : Type} {xs : List α} {i : Int} (d : α) (h0 : 0 ≤ i) (h1 : i < xs.length) : xs.getD i.toNat d ∈ xs := by
  have h2 : i.toNat < xs.length := by omega
  rw [List.getD_eq_getElem?_getD, List.getElem?_eq_getElem h2]
  exact List.getElem_mem h2
abbrev n_law_product : List Str := ["_law_one", "_law_other", "_law_whole_here", "_law_size", "_law_at", "_law_spot", "_law_mid"]
theorem sc_law_product : FnScope n_law_product ["_law_one", "_law_other", "_law_whole_here"] (defScope s_law_product) := ⟨rfl, rfl, rfl, by decide +kernel, rfl, by decide +kernel, by decide +kernel⟩
def t_law_product (K : PySem.W.Frag) (T : List (Addr × Str)) : TS := (tSeq (tAsg (tCB (rLenS K) (tCons (tVar 0) tNil)) (gName 3))
  (tRet (tLc (iRng1 (tCons (tVar 3) tNil)) (gName 4) tYes (tLc (iRng1 (tCons (tVar 3) tNil)) (gName 5) tYes (tCB (rSum K) (tCons (tLc (iRng1 (tCons (tVar 3) tNil)) (gName 6) tYes (tOp (rI CMul fun i j => .int (i * j)) (tOp (rIxL K) (tOp (rIxL K) (tVar 0) (tVar 4)) (tVar 6)) (tOp (rIxL K) (tOp (rIxL K) (tVar 1) (tVar 6)) (tVar 5))) [6]) tNil)) [5]) [4])))
theorem der_law_product {k : Nat} {f : Addr} {cdv : Value} {A : Around} {outer : List Env} {s : Shared} {H : Hp} {E : XK} (F : Fx mg) (hr : Room k (A.deeper (envOfC "_law_product" (defScope s_law_product) s.heap.objs.size f cdv))) :
    PSs (cxOf CX0 P w K mg base n_law_product "_law_product" (defScope s_law_product) f cdv A outer s H E).nox (defBody s_law_product) (t_law_product K T) :=
  (pss_cons (ps_set (i := 3) sc_law_product.nd rfl (.inr rfl) (pe_callB call_len_seq (by rfl) F.b_len (by decide +kernel) (pa_cons (pv 0) pa_nil)))
  (pss_one (ps_ret (pe_lc (own := [("_law_at", 4)]) (g := (gName 4)) (tt := tYes) rfl sc_law_product.nd (pi_range1 (by rfl) F.b_range (pa_cons (pv 3) pa_nil)) (blkOk_by (own := [("_law_at", 4)]) (N := n_law_product) (sc := defScope s_law_product) (by decide +kernel)) (fun _ _ _ _ _ => (pg_name (i := 4) sc_law_product.nd rfl (.inr rfl))) (fun _ _ _ _ _ => pts_nil) (fun _ _ _ _ _ => (pe_lc (own := [("_law_spot", 5)]) (g := (gName 5)) (tt := tYes) rfl sc_law_product.nd (pi_range1 (by rfl) F.b_range (pa_cons (pv 3) pa_nil)) (blkOk_by (own := [("_law_spot", 5)]) (N := n_law_product) (by rfl)) (fun _ _ _ _ _ => (pg_name (i := 5) sc_law_product.nd rfl (.inr rfl))) (fun _ _ _ _ _ => pts_nil) (fun _ _ _ _ _ => (pe_callB (cr_sum rfl) (by rfl) F.b_sum (by decide +kernel) (pa_cons (pe_lc (own := [("_law_mid", 6)]) (g := (gName 6)) (tt := tYes) rfl sc_law_product.nd (pi_range1 (by rfl) F.b_range (pa_cons (pv 3) pa_nil)) (blkOk_by (own := [("_law_mid", 6)]) (N := n_law_product) (by rfl)) (fun _ _ _ _ _ => (pg_name (i := 6) sc_law_product.nd rfl (.inl rfl))) (fun _ _ _ _ _ => pts_nil) (fun _ _ _ _ _ => (pe_op op_mul (pe_ix ix_list (pe_ix ix_list (pv 0) (pv 4) (fun _ _ => rfl)) (pv 6) (fun _ _ => rfl)) (pe_ix ix_list (pe_ix ix_list (pv 1) (pv 6) (fun _ _ => rfl)) (pv 5) (fun _ _ => rfl))))) pa_nil)))))))))
theorem pure_law_product (vs : List V) (H : Hp) (Q : VK) (E : XK) (h : sp_law_product K T vs H Q E) : t_law_product K T { nx := fun _ H' => Q .non H', rt := Q } (start n_law_product vs) H := by
  obtain ⟨S, v, u, w, a, b, z, dom, rfl, ha, hb, hz, ⟨k1, k2, k3, k4⟩, q⟩ := h
  have s0 : Sg T (hd S H) S H := ⟨dom, .same⟩
  refine q_asg s0 (ev_lenL (ev_var rfl ha)) fun v3 H1 e1 r1 => ?_
  obtain rfl := of_int r1
  have s1 := s0.go e1
  have l1 := e1.hd dom
  have hl : (rng 0 (a.length : Int).toNat).length ≤ 90000 := by rw [rng_len]; omega
  refine s_ret s1.up (en_map (fun i => (rng 0 (a.length : Int).toNat).map fun j => ((rng 0 (a.length : Int).toNat).map fun k => mAt a i k * mAt b k j).sum) (sr_r1 (n := (a.length : Int)) (ev_var rfl rep_int) (by omega) (by omega)) tgm_name hl fun i hi v1 S1 H1' s1 ri => ⟨rfl, rfl, (en_map (fun j => ((rng 0 (a.length : Int).toNat).map fun k => mAt a i k * mAt b k j).sum) (sr_r1 (n := (a.length : Int)) (ev_var rfl rep_int) (by omega) (by omega)) tgm_name hl fun j hj v2 S2 H2' s2 rj => ⟨rfl, rfl, ev_sum (en_map (fun k => mAt a i k * mAt b k j) (sr_r1 (n := (a.length : Int)) (ev_var rfl rep_int) (by omega) (by omega)) tgm_name hl fun k hk v3 S3 H3' s3 rk => ⟨rfl, rfl, ?_⟩).r⟩).r⟩).r fun y H2 e2 r2 => q _ _ (e1.trans e2) r2
  have i1 := rng_mem hi
  have j1 := rng_mem hj
  have g1 := rng_mem hk
  have ma := getD_mem (xs := a) (i := i) [] (by omega) (by omega)
  have mb := getD_mem (xs := b) (i := k) [] (by omega) (by omega)
  have la := k3 _ ma
  obtain ⟨lb, bb⟩ := k4 _ mb
  refine ev_opI (g := fun i j => i * j) (ev_ixL (ev_ixL (ev_var rfl ((((ha.le l1).le s1.le).le s2.le).le s3.le)) (ev_var rfl ((ri.le s2.le).le s3.le)) (atI_get [] (by omega) (by omega))) (ev_var rfl rk) (atI_get 0 (by omega) (by omega))) (ev_ixL (ev_ixL (ev_var rfl ((((hb.le l1).le s1.le).le s2.le).le s3.le)) (ev_var rfl rk) (atI_get [] (by omega) (by omega))) (ev_var rfl (rj.le s3.le)) (atI_get 0 (by omega) (by omega))) (.inr (bb _ (getD_mem 0 (by omega) (by omega))))
theorem cal_law_product {k : Nat} (D : At K mg "_law_product" s_law_product) (F : Fx mg) : Cal P w K mg base (k + 1) "_law_product" ["_law_one", "_law_other", "_law_whole_here"] (sp_law_product K T) :=
  mk_cal D sc_law_product (fun _ _ _ _ _ _ us hl => match us, hl with | [_, _, _], _ => rfl) (Pu3.len rfl) (fun f cdv A outer s H E hr => der_law_product F hr) (fun vs H Q E h => pure_law_product vs H Q E h)
end K4
end
section
set_option Elab.async false
set_option linter.all false
set_option maxRecDepth 100000
set_option maxHeartbeats 4000000
namespace K4
open PySem PySem.Spec PyProof.Rows L2 PySem.W
variable {P : Program} {w : World} {K : PySem.W.Frag} {mg : Str → Option Value} {base : Heap} {T : List (Addr × Str)}

theorem cutS_len (x : Str) (lo hi : Option Int) : (cutS x lo hi).length ≤ x.length := by
  unfold cutS Str.length
  simp
  omega
theorem app_len (x y : Str) : (x ++ y).length = x.length + y.length := by
  show (x.cps ++ y.cps).size = _
  rw [Array.size_append] <;> rfl
abbrev Pic := Tup Str
def mStroke (p : Pic) (line : Int) : Pic :=
  if line < (p.items.length : Int) then Tup.mk ((cut p.items none (some line) ++ [repS "#" ((p.items.getD 0 "").length : Int).toNat]) ++ cut p.items (some (line + 1)) none)
  else Tup.mk (p.items.map fun t => (cutS t none (some (line - (p.items.length : Int))) ++ ".") ++ cutS t (some (line - (p.items.length : Int) + 1)) none)
def okPic (p : Pic) : Prop := 1 ≤ p.items.length ∧ p.items.length ≤ 100 ∧ ∀ t ∈ p.items, 0 < t.length ∧ t.length ≤ 100
theorem cut_len {α : Type} (xs : List α) (lo hi : Option Int) : (cut xs lo hi).length ≤ xs.length := by
  unfold cut
  rw [List.length_take, List.length_drop]
  omega
def sp_law_stroke (K : PySem.W.Frag) (T : List (Addr × Str)) : Sp := Pu2 T (fun p (_ : Int) => okPic p) mStroke
abbrev n_law_stroke : List Str := ["_law_picture", "_law_line", "_law_at", "_law_told"]
theorem sc_law_stroke : FnScope n_law_stroke ["_law_picture", "_law_line"] (defScope s_law_stroke) := ⟨rfl, rfl, rfl, by decide +kernel, rfl, by decide +kernel, by decide +kernel⟩
def t_law_stroke (K : PySem.W.Frag) (T : List (Addr × Str)) : TS := (tSeq (tIfS (tTest (tOp (rI0 fun i j => .bl (decide (i < j))) (tVar 1) (tCB (rLenS K) (tCons (tVar 0) tNil)))) (tRet (tOp (rCatA K) (tOp (rCatA K) (tSl (rSlA K) (tVar 0) tNoPart (tPart (tVar 1))) (tTup (tCons (tOp rMulT (tC (.str "#")) (tCB rLenStr (tCons (tOp (rIxT K) (tVar 0) (tC (.int 0))) tNil))) tNil))) (tSl (rSlA K) (tVar 0) (tPart (tOp (rI0 fun i j => .int (i + j)) (tVar 1) (tC (.int 1)))) tNoPart))) tNext)
  (tSeq (tAsg (tOp (rI0 fun i j => .int (i - j)) (tVar 1) (tCB (rLenS K) (tCons (tVar 0) tNil))) (gName 2))
  (tRet (tThen (tLc (iTup K (tVar 0)) (gName 3) tYes (tOp rAddS (tOp rAddS (tSl rSlS (tVar 3) tNoPart (tPart (tVar 2))) (tC (.str "."))) (tSl rSlS (tVar 3) (tPart (tOp (rI0 fun i j => .int (i + j)) (tVar 2) (tC (.int 1)))) tNoPart)) [3]) (kTup K)))))
theorem der_law_stroke {k : Nat} {f : Addr} {cdv : Value} {A : Around} {outer : List Env} {s : Shared} {H : Hp} {E : XK} (F : Fx mg) (hr : Room k (A.deeper (envOfC "_law_stroke" (defScope s_law_stroke) s.heap.objs.size f cdv))) :
    PSs (cxOf CX0 P w K mg base n_law_stroke "_law_stroke" (defScope s_law_stroke) f cdv A outer s H E).nox (defBody s_law_stroke) (t_law_stroke K T) :=
  (pss_cons (ps_if (pt_cmpR (op_lt) (pv 1) (pe_callB call_len_seq (by rfl) F.b_len (by decide +kernel) (pa_cons (pv 0) pa_nil)) (nomark _)) (pss_one (ps_ret (pe_op op_catA (pe_op op_catA (pe_slice sl_tupA (pv 0) po_none (po_some (pv 1))) (pe_tup (pa_cons (pe_op op_mulT pe_str (pe_callB call_len_str (by rfl) F.b_len (by decide +kernel) (pa_cons (pe_ix ix_tup (pv 0) pe_int (fun _ _ => rfl)) pa_nil))) pa_nil))) (pe_slice sl_tupA (pv 0) (po_some (pe_op op_add (pv 1) pe_int)) po_none)))) pss_nil)
  (pss_cons (ps_set (i := 2) sc_law_stroke.nd rfl (.inr rfl) (pe_op op_sub (pv 1) (pe_callB call_len_seq (by rfl) F.b_len (by decide +kernel) (pa_cons (pv 0) pa_nil))))
  (pss_one (ps_ret (pe_tupleOf (by rfl) F.b_tuple (pe_lc (own := [("_law_told", 3)]) (g := (gName 3)) (tt := tYes) rfl sc_law_stroke.nd (pi_tup (pv 0)) (blkOk_by (own := [("_law_told", 3)]) (N := n_law_stroke) (sc := defScope s_law_stroke) (by decide +kernel)) (fun _ _ _ _ _ => (pg_name (i := 3) sc_law_stroke.nd rfl (.inl rfl))) (fun _ _ _ _ _ => pts_nil) (fun _ _ _ _ _ => (pe_op op_addS (pe_op op_addS (pe_slice sl_str (pv 3) po_none (po_some (pv 2))) pe_str) (pe_slice sl_str (pv 3) (po_some (pe_op op_add (pv 2) pe_int)) po_none)))))))))
theorem pure_law_stroke (vs : List V) (H : Hp) (Q : VK) (E : XK) (h : sp_law_stroke K T vs H Q E) : t_law_stroke K T { nx := fun _ H' => Q .non H', rt := Q } (start n_law_stroke vs) H := by
  obtain ⟨S, v, u, p, line, dom, rfl, hp, hl, ⟨p1, p2, p3⟩, q⟩ := h
  have s0 : Sg T (hd S H) S H := ⟨dom, .same⟩
  have hfst := getD_mem (xs := p.items) (i := 0) "" (by decide) (by omega)
  refine q_if1 s0 (et_test (ev_cmp (ev_var rfl hl) (ev_lenT (ev_var rfl hp)))) (fun hb H1 e1 => ?_) fun hb H1 e1 => ?_
  · have l1 := e1.hd dom
    have c1 := cut_len p.items none (some line)
    have c2 := cut_len p.items (some (line + 1)) none
    refine s_ret (s0.go e1).up (ev_catT (ev_catT (ev_slT (ev_var rfl (hp.le l1)) ep_none (ep_some (ev_var rfl (hl.le l1)))) (ev_tupN (eas_cons (ev_mulS (ev_str (s := "#")) (ev_lenS (ev_ixT (ev_var rfl (hp.le l1)) ev_int (atI_get (xs := p.items) (i := 0) "" (by decide) (by omega))) ?_) ?_ ?_ rfl) eas_nil) (by simp)) ?_) (ev_slT (ev_var rfl (hp.le l1)) (ep_some (ev_opI0 (g := fun i j => i + j) (ev_var rfl (hl.le l1)) ev_int)) ep_none) ?_) fun y H2 e2 r2 => q _ _ (e1.trans e2) ?_
    · have := (p3 _ hfst).2; omega
    · have := (p3 _ hfst).1; omega
    · have := (p3 _ hfst).2; omega
    · simp; omega
    · simp; omega
    · rw [mStroke, if_pos (of_decide_eq_true hb)]
      exact r2
  · have s1 := s0.go e1
    have l1 := e1.hd dom
    refine q_asg s1.up (ev_opI0 (g := fun i j => i - j) (ev_var rfl (hl.le l1)) (ev_lenT (ev_var rfl (hp.le l1)))) fun v2 H2 e2 r2 => ?_
    have l2 := (e1.trans e2).hd dom
    refine s_ret (s1.go e2).up (ev_tupL (en_map (fun t => (cutS t none (some (line - (p.items.length : Int))) ++ ".") ++ cutS t (some (line - (p.items.length : Int) + 1)) none) (sr_tup (ev_var rfl (hp.le l2))) tgm_name (by omega) fun t ht v' S' H' s rt => ⟨rfl, rfl, ?_⟩).r) fun y H3 e3 r3 => q _ _ ((e1.trans e2).trans e3) ?_
    · have h1 := cutS_len t none (some (line - (p.items.length : Int)))
      have h2 := cutS_len t (some (line - (p.items.length : Int) + 1)) none
      have h3 := (p3 t ht).2
      refine ev_addS (ev_addS (ev_slS (ev_var rfl rt) ep_none (ep_some (ev_var rfl (r2.le s.le))) (by omega)) (ev_str (s := ".")) ?_) (ev_slS (ev_var rfl rt) (ep_some (ev_opI0 (g := fun i j => i + j) (ev_var rfl (r2.le s.le)) ev_int)) ep_none (by omega)) ?_
      · have e1 : (Str.ofString ".").length = 1 := rfl
        omega
      · rw [app_len]
        have e1 : (Str.ofString ".").length = 1 := rfl
        omega
    · rw [mStroke, if_neg (of_decide_eq_false hb)]
      exact r3
theorem cal_law_stroke {k : Nat} (D : At K mg "_law_stroke" s_law_stroke) (F : Fx mg) : Cal P w K mg base (k + 1) "_law_stroke" ["_law_picture", "_law_line"] (sp_law_stroke K T) :=
  mk_cal D sc_law_stroke (fun _ _ _ _ _ _ us hl => match us, hl with | [_, _], _ => rfl) (Pu2.len rfl) (fun f cdv A outer s H E hr => der_law_stroke F hr) (fun vs H Q E h => pure_law_stroke vs H Q E h)
end K4
end
section
set_option Elab.async false
set_option linter.all false
set_option maxRecDepth 100000
set_option maxHeartbeats 4000000
namespace K4
open PySem PySem.Spec PyProof.Rows L2 PySem.W
variable {P : Program} {w : World} {K : PySem.W.Frag} {mg : Str → Option Value} {base : Heap} {T : List (Addr × Str)}

def mPlay (p : Pic) (l : List Int) : Pic := l.foldl mStroke p
def sp_law_strokes (K : PySem.W.Frag) (T : List (Addr × Str)) : Sp := Pu2 T (fun p (e : Tup Int) => ∀ i, okPic (mPlay p (e.items.take i))) fun p e => mPlay p e.items
abbrev n_law_strokes : List Str := ["_law_picture", "_law_lines", "_law_line"]
theorem sc_law_strokes : FnScope n_law_strokes ["_law_picture", "_law_lines"] (defScope s_law_strokes) := ⟨rfl, rfl, rfl, by decide +kernel, rfl, by decide +kernel, by decide +kernel⟩
def t_law_strokes (K : PySem.W.Frag) (T : List (Addr × Str)) : TS := (tSeq (tFor (iTup K (tVar 1)) (gName 2)
   (tAsg (tCall (sp_law_stroke K T) [] E0 (tCons (tVar 0) (tCons (tVar 2) tNil))) (gName 0)))
  (tRet (tVar 0)))
theorem der_law_strokes {k : Nat} {f : Addr} {cdv : Value} {A : Around} {outer : List Env} {s : Shared} {H : Hp} {E : XK} (F : Fx mg) (C_law_stroke : Cal P w K mg base k "_law_stroke" ["_law_picture", "_law_line"] (sp_law_stroke K T)) (hr : Room k (A.deeper (envOfC "_law_strokes" (defScope s_law_strokes) s.heap.objs.size f cdv))) :
    PSs (cxOf CX0 P w K mg base n_law_strokes "_law_strokes" (defScope s_law_strokes) f cdv A outer s H E).nox (defBody s_law_strokes) (t_law_strokes K T) :=
  (pss_cons (ps_for PassesOwn.never rfl (pi_tup (pv 1)) (pg_name (i := 2) sc_law_strokes.nd rfl (.inl rfl))
   (pss_one (ps_set (i := 0) sc_law_strokes.nd rfl (.inl rfl) (pe_cal C_law_stroke hr (by rfl) (pa_cons (pv 0) (pa_cons (pv 2) pa_nil))))))
  (pss_one (ps_ret (pv 0))))
theorem pure_law_strokes (vs : List V) (H : Hp) (Q : VK) (E : XK) (h : sp_law_strokes K T vs H Q E) : t_law_strokes K T { nx := fun _ H' => Q .non H', rt := Q } (start n_law_strokes vs) H := by
  obtain ⟨S, v, u, p, e, dom, rfl, hp, he, ok, q⟩ := h
  have s0 : Sg T (hd S H) S H := ⟨dom, .same⟩
  refine q_forT s0 (ev_var rfl he) (fun H2 i σ' H' => ∃ x o, σ' = [some x, some u, o] ∧ Le T H2 H' ∧ Sg T (hd S H2) S H' ∧ Rep (hd S H') x (mPlay p (e.items.take i))) (fun H2 e2 => ⟨v, none, rfl, .same, ⟨(s0.go e2).dom, .same⟩, hp.le (e2.hd dom)⟩) (fun H2 i σ' H' ⟨_, _, _, _, s', _⟩ => ⟨S, s'⟩) ?_ ?_
  · rintro H2 i line vl σ' H' H'' e2 hi ⟨x, o, rfl, e', s', r'⟩ e3 rl
    have ht : mPlay p (e.items.take (i + 1)) = mStroke (mPlay p (e.items.take i)) line := by
      unfold mPlay
      rw [List.take_add_one, hi, List.foldl_append] <;> rfl
    have s3 := s'.go e3
    refine s_asg s3.up (ev_call2 (ev_var rfl (r'.le (e3.hd s'.dom))) (ev_var rfl (rl S s')) (ok i)) fun y H5 e5 r5 => ?_
    exact ⟨y, _, rfl, (e'.trans e3).trans e5, s3.go e5, by rw [ht]; exact r5⟩
  · rintro H2 σ' H' e2 ⟨x, o, rfl, e', s', r'⟩
    rw [List.take_length] at r'
    exact s_ret s'.up (ev_var rfl r') fun y H5 e5 r5 => q _ _ ((e2.trans e').trans e5) r5
theorem cal_law_strokes {k : Nat} (D : At K mg "_law_strokes" s_law_strokes) (F : Fx mg) (C_law_stroke : Cal P w K mg base k "_law_stroke" ["_law_picture", "_law_line"] (sp_law_stroke K T)) : Cal P w K mg base (k + 1) "_law_strokes" ["_law_picture", "_law_lines"] (sp_law_strokes K T) :=
  mk_cal D sc_law_strokes (fun _ _ _ _ _ _ us hl => match us, hl with | [_, _], _ => rfl) (Pu2.len rfl) (fun f cdv A outer s H E hr => der_law_strokes F C_law_stroke hr) (fun vs H Q E h => pure_law_strokes vs H Q E h)
theorem of_tupS {H : Hp} {v : V} {z : Pic} (h : Rep H v z) : ∃ a, v = .ref a ∧ H a = some (.tup (z.items.map V.str)) := by
  have h' : Dq H v (.tuple (z.items.map Datum.toD)) := h
  clear h
  have key : ∀ {ns : List Str} {xs : List V}, DqAll H xs (ns.map Datum.toD) → xs = ns.map V.str := by
    intro ns
    induction ns with
    | nil => intro xs h; cases h; rfl
    | cons n ns ih =>
      intro xs h
      cases h with
      | cons h1 h2 =>
        cases h1
        rw [ih h2] <;> rfl
  generalize e : z.items.map Datum.toD = ds at h'
  cases h' with
  | tup h hs =>
    rw [← e] at hs
    rw [key hs] at h
    exact ⟨_, rfl, h⟩
  | tupF h hs =>
    cases hz : z.items with
    | nil => rw [hz] at e; cases e
    | cons t ts => rw [hz] at e; cases e
theorem strs_rep {G : Hp} : ∀ ss : List Str, RepAll G (ss.map V.str) ss
  | [] => repAll_nil
  | s :: ss => repAll_cons rep_str (strs_rep ss)
theorem pic_hide {S : List Addr} {H : Hp} {v : V} {z : Pic} (dom : Dom S H) (h : Rep H v z) : Rep (hd S H) v z := by
  obtain ⟨a, rfl, ha⟩ := of_tupS h
  exact rep_tup (by
    rw [hd_out fun m => ?_]
    · exact ha
    · obtain ⟨o, ho, so⟩ := dom _ m
      rw [ha] at ho
      cases ho
      exact so) (strs_rep _)
theorem pics_hide {S : List Addr} {H : Hp} (dom : Dom S H) : ∀ {vs : List V} {zs : List Pic}, RepAll H vs zs → RepAll (hd S H) vs zs
  | _, [], h => by rw [h.nil_of]; exact repAll_nil
  | _, z :: zs, h => by
    obtain ⟨v, ws, rfl, h1, h2⟩ := h.uncons
    exact repAll_cons (pic_hide dom h1) (pics_hide dom h2)
theorem s_retPic {σ : L2.St} {S : List Addr} {G H : Hp} {D : Ends} {te : TE} {xs : List Pic} (s : Sg T G S H) (h : EvR T te σ G xs) (hl : xs.length ≤ 100000) (ne : ∀ x ∈ xs, x.items ≠ []) (k : ∀ v (ys : List Pic) H1, ys.Perm xs → Le T H H1 → Rep (hd S H1) v ys → D.rt v H1) : tRet (tCB rSortPic (tCons te tNil)) D σ H :=
  h S H s _ fun v3 H3 e3 r3 => ⟨v3, xs, rfl, r3.real, hl, ne, fun l us ys perm hn rus => by
    have s3 := s.go e3
    refine k _ ys _ perm (e3.trans (.new hn)) (rep_lst ?_ ((pics_hide s3.dom rus).le (s3.newD hn)))
    rw [hd_out (s3.fresh hn), upd_same]⟩
def mStr : Nat → List Str
  | 0 => [""]
  | n + 1 => ((mStr n).map fun t : Str => t ++ ("#" : Str)) ++ (mStr n).map fun t : Str => t ++ ("." : Str)
theorem mStr_len : ∀ n, (mStr n).length = 2 ^ n
  | 0 => rfl
  | n + 1 => by
    show (((mStr n).map _) ++ (mStr n).map _).length = _
    rw [List.length_append, List.length_map, List.length_map, mStr_len n, Nat.pow_succ]
    omega
theorem mStr_each : ∀ n t, t ∈ mStr n → t.length = n
  | 0, t, h => by
    rw [List.mem_singleton.mp h] <;> rfl
  | n + 1, t, h => by
    rcases List.mem_append.mp h with h | h
    · obtain ⟨z, hz, rfl⟩ := List.mem_map.mp h
      rw [app_len, mStr_each n z hz] <;> rfl
    · obtain ⟨z, hz, rfl⟩ := List.mem_map.mp h
      rw [app_len, mStr_each n z hz] <;> rfl
def mPic (high wide : Int) (t : Str) : Pic := Tup.mk ((rng 0 high.toNat).map fun i => cutS t (some (i * wide)) (some (i * wide + wide)))
def mPics (high wide : Int) : List Pic := (mStr (high * wide).toNat).map (mPic high wide)
def okStarts (high wide : Int) : Prop := 1 ≤ high ∧ high ≤ 10 ∧ 1 ≤ wide ∧ wide ≤ 10 ∧ high * wide ≤ 10
def sp_law_starts (K : PySem.W.Frag) (T : List (Addr × Str)) : Sp := fun vs H Q _ => ∃ S high wide, Dom S H ∧ vs = [.int high, .int wide] ∧ okStarts high wide ∧ ∀ r (ys : List Pic) H', Le T H H' → ys.Perm (mPics high wide) → Rep (hd S H') r ys → Q r H'
theorem len_law_starts {ps : List Str} (h : ps.length = 2) : ∀ vs H Q E, sp_law_starts K T vs H Q E → vs.length = ps.length := fun vs H Q E q => by
  obtain ⟨S, high, wide, _, rfl, _⟩ := q
  exact h.symm
abbrev n_law_starts : List Str := ["_law_high", "_law_wide", "_law_found", "_law_step", "_law_told", "_law_at"]
theorem sc_law_starts : FnScope n_law_starts ["_law_high", "_law_wide"] (defScope s_law_starts) := ⟨rfl, rfl, rfl, by decide +kernel, rfl, by decide +kernel, by decide +kernel⟩
def t_law_starts (K : PySem.W.Frag) (T : List (Addr × Str)) : TS := (tSeq (tAsg (tLst (tCons (tC (.str "")) tNil)) (gName 2))
  (tSeq (tFor (iRng1 (tCons (tOp (rI CMul fun i j => .int (i * j)) (tVar 0) (tVar 1)) tNil)) (gName 3)
   (tAsg (tOp rCat (tLc (iList K (tVar 2)) (gName 4) tYes (tOp rAddS (tVar 4) (tC (.str "#"))) [4]) (tLc (iList K (tVar 2)) (gName 4) tYes (tOp rAddS (tVar 4) (tC (.str "."))) [4])) (gName 2)))
  (tRet (tCB rSortPic (tCons (tLc (iList K (tVar 2)) (gName 4) tYes (tThen (tLc (iRng1 (tCons (tVar 0) tNil)) (gName 5) tYes (tSl rSlS (tVar 4) (tPart (tOp (rI CMul fun i j => .int (i * j)) (tVar 5) (tVar 1))) (tPart (tOp (rI0 fun i j => .int (i + j)) (tOp (rI CMul fun i j => .int (i * j)) (tVar 5) (tVar 1)) (tVar 1)))) [5]) (kTup K)) [4]) tNil)))))
theorem der_law_starts {k : Nat} {f : Addr} {cdv : Value} {A : Around} {outer : List Env} {s : Shared} {H : Hp} {E : XK} (F : Fx mg) (hr : Room k (A.deeper (envOfC "_law_starts" (defScope s_law_starts) s.heap.objs.size f cdv))) :
    PSs (cxOf CX0 P w K mg base n_law_starts "_law_starts" (defScope s_law_starts) f cdv A outer s H E).nox (defBody s_law_starts) (t_law_starts K T) :=
  (pss_cons (ps_set (i := 2) sc_law_starts.nd rfl (.inl rfl) (pe_lst (pa_cons pe_str pa_nil)))
  (pss_cons (ps_for PassesOwn.never rfl (pi_range1 (by rfl) F.b_range (pa_cons (pe_op op_mul (pv 0) (pv 1)) pa_nil)) (pg_name (i := 3) sc_law_starts.nd rfl (.inl rfl))
   (pss_one (ps_set (i := 2) sc_law_starts.nd rfl (.inl rfl) (pe_op op_cat (pe_lc (own := [("_law_told", 4)]) (g := (gName 4)) (tt := tYes) rfl sc_law_starts.nd (pi_list (pv 2)) (blkOk_by (own := [("_law_told", 4)]) (N := n_law_starts) (sc := defScope s_law_starts) (by decide +kernel)) (fun _ _ _ _ _ => (pg_name (i := 4) sc_law_starts.nd rfl (.inl rfl))) (fun _ _ _ _ _ => pts_nil) (fun _ _ _ _ _ => (pe_op op_addS (pv 4) pe_str))) (pe_lc (own := [("_law_told", 4)]) (g := (gName 4)) (tt := tYes) rfl sc_law_starts.nd (pi_list (pv 2)) (blkOk_by (own := [("_law_told", 4)]) (N := n_law_starts) (sc := defScope s_law_starts) (by decide +kernel)) (fun _ _ _ _ _ => (pg_name (i := 4) sc_law_starts.nd rfl (.inl rfl))) (fun _ _ _ _ _ => pts_nil) (fun _ _ _ _ _ => (pe_op op_addS (pv 4) pe_str)))))))
  (pss_one (ps_ret (pe_callB (cr_sortPic (hu66 hr)) (by rfl) F.b_sorted (by decide +kernel) (pa_cons (pe_lc (own := [("_law_told", 4)]) (g := (gName 4)) (tt := tYes) rfl sc_law_starts.nd (pi_list (pv 2)) (blkOk_by (own := [("_law_told", 4)]) (N := n_law_starts) (sc := defScope s_law_starts) (by decide +kernel)) (fun _ _ _ _ _ => (pg_name (i := 4) sc_law_starts.nd rfl (.inr rfl))) (fun _ _ _ _ _ => pts_nil) (fun _ _ _ _ _ => (pe_tupleOf (by rfl) F.b_tuple (pe_lc (own := [("_law_at", 5)]) (g := (gName 5)) (tt := tYes) rfl sc_law_starts.nd (pi_range1 (by rfl) F.b_range (pa_cons (pv 0) pa_nil)) (blkOk_by (own := [("_law_at", 5)]) (N := n_law_starts) (by rfl)) (fun _ _ _ _ _ => (pg_name (i := 5) sc_law_starts.nd rfl (.inl rfl))) (fun _ _ _ _ _ => pts_nil) (fun _ _ _ _ _ => (pe_slice sl_str (pv 4) (po_some (pe_op op_mul (pv 5) (pv 1))) (po_some (pe_op op_add (pe_op op_mul (pv 5) (pv 1)) (pv 1))))))))) pa_nil))))))
theorem pure_law_starts (vs : List V) (H : Hp) (Q : VK) (E : XK) (h : sp_law_starts K T vs H Q E) : t_law_starts K T { nx := fun _ H' => Q .non H', rt := Q } (start n_law_starts vs) H := by
  obtain ⟨S, high, wide, dom, rfl, ⟨h1, h2, w1, w2, hw⟩, q⟩ := h
  have s0 : Sg T (hd S H) S H := ⟨dom, .same⟩
  have hR : ∀ {σ : L2.St} {G : Hp}, σ[0]? = some (some (.int high)) → EvR T (tVar 0) σ G high := fun h => ev_var h rep_int
  have hC : ∀ {σ : L2.St} {G : Hp}, σ[1]? = some (some (.int wide)) → EvR T (tVar 1) σ G wide := fun h => ev_var h rep_int
  have hm : CMul high wide := .inr ⟨by omega, by omega⟩
  have hp0 : 0 ≤ high * wide := Int.mul_nonneg (by omega) (by omega)
  have hpow : ∀ i, i ≤ (high * wide).toNat → (mStr i).length ≤ 1024 := fun i hi => by
    rw [mStr_len]
    exact Nat.le_trans (Nat.pow_le_pow_right (by decide) (show i ≤ 10 by omega)) (by decide)
  refine q_asg s0 (x := mStr 0) (en_lst (eas_cons (ev_str (s := "")) eas_nil) (by decide)).r fun v2 H1 e1 r1 => ?_
  have s1 := s0.go e1
  refine s_forS (D := { nx := _, rt := _, bk := _, ct := _ }) s1.up (sr_r1 (ev_opI (g := fun i j => i * j) (hR rfl) (hC rfl) hm) (by omega) (by omega)) (fun H2 i σ' H' => ∃ x o, σ' = [some (.int high), some (.int wide), some x, o, none, none] ∧ Le T H2 H' ∧ Sg T (hd S H2) S H' ∧ Rep (hd S H') x (mStr i) ∧ i ≤ (high * wide).toNat) (fun H2 e2 => ⟨v2, none, rfl, .same, ⟨(s1.go e2).dom, .same⟩, r1.le (e2.hd s1.dom), Nat.zero_le _⟩) (fun H2 i σ' H' ⟨_, _, _, _, s', _⟩ => ⟨S, s'⟩) ?_ ?_
  · rintro H2 i line vl σ' H' H'' e2 hi ⟨x, o, rfl, e', s', r', hil⟩ e3 rl
    have s3 := s'.go e3
    have hi' := rng_at hi
    have r3 := r'.le (e3.hd s'.dom)
    have hlen := hpow i hil
    refine s_asg s3.up (x := mStr (i + 1)) (en_cat (en_map (fun t : Str => t ++ "#") (sr_list (ev_var rfl r3)) tgm_name (by omega) fun t ht v' S' H' s rt => ⟨rfl, rfl, ev_addS (ev_var rfl rt) (ev_str (s := "#")) ?_⟩).r (en_map (fun t : Str => t ++ ".") (sr_list (ev_var rfl r3)) tgm_name (by omega) fun t ht v' S' H' s rt => ⟨rfl, rfl, ev_addS (ev_var rfl rt) (ev_str (s := ".")) ?_⟩).r ?_).r fun y H5 e5 r5 => ?_
    · rw [mStr_each i t ht]
      have e1 : (Str.ofString "#").length = 1 := rfl
      omega
    · rw [mStr_each i t ht]
      have e1 : (Str.ofString ".").length = 1 := rfl
      omega
    · rw [List.length_map, List.length_map]
      omega
    · exact ⟨y, _, rfl, (e'.trans e3).trans e5, s3.go e5, r5, by omega⟩
  · rintro H2 σ' H' e2 ⟨x, o, rfl, e', s', r', hil⟩
    rw [rng_len] at r'
    have hlen := hpow _ (Nat.le_refl _)
    have e12 := (e1.trans e2).trans e'
    have E1 : EvN T (tLc (iList K (tVar 2)) (gName 4) tYes (tThen (tLc (iRng1 (tCons (tVar 0) tNil)) (gName 5) tYes (tSl rSlS (tVar 4) (tPart (tOp (rI CMul fun i j => .int (i * j)) (tVar 5) (tVar 1))) (tPart (tOp (rI0 fun i j => .int (i + j)) (tOp (rI CMul fun i j => .int (i * j)) (tVar 5) (tVar 1)) (tVar 1)))) [5]) (kTup K)) [4]) [some (.int high), some (.int wide), some x, o, none, none] (hd S H') (mPics high wide) :=
      en_map (mPic high wide) (sr_list (ev_var rfl r')) tgm_name (by omega) fun t ht v' S' H' s rt => ⟨rfl, rfl, ev_tupL (en_map (fun i => cutS t (some (i * wide)) (some (i * wide + wide))) (sr_r1 (hR rfl) (by omega) (by omega)) tgm_name (by rw [rng_len]; omega) fun i hi v2 S2 H2 s2 ri => ⟨rfl, rfl, ev_slS (ev_var rfl (rt.le s2.le)) (ep_some (ev_opI (g := fun i j => i * j) (ev_var rfl ri) (hC rfl) (.inr ⟨by omega, by omega⟩))) (ep_some (ev_opI0 (g := fun i j => i + j) (ev_opI (g := fun i j => i * j) (ev_var rfl ri) (hC rfl) (.inr ⟨by omega, by omega⟩)) (hC rfl))) (by rw [mStr_each _ t ht]; omega)⟩).r⟩
    refine s_retPic s'.up E1.r (by unfold mPics; rw [List.length_map]; omega) (fun p hp => ?_) fun y ys H3 perm e3 r3 => q _ ys _ (e12.trans e3) perm r3
    obtain ⟨t, _, rfl⟩ := List.mem_map.mp hp
    have : ((rng 0 high.toNat).map fun i => cutS t (some (i * wide)) (some (i * wide + wide))).length ≠ 0 := by
      rw [List.length_map, rng_len]
      omega
    intro z
    exact this (by rw [show (rng 0 high.toNat).map (fun i => cutS t (some (i * wide)) (some (i * wide + wide))) = [] from z] <;> rfl)
theorem cal_law_starts {k : Nat} (D : At K mg "_law_starts" s_law_starts) (F : Fx mg) : Cal P w K mg base (k + 1) "_law_starts" ["_law_high", "_law_wide"] (sp_law_starts K T) :=
  mk_cal D sc_law_starts (fun _ _ _ _ _ _ us hl => match us, hl with | [_, _], _ => rfl) (len_law_starts rfl) (fun f cdv A outer s H E hr => der_law_starts F hr) (fun vs H Q E h => pure_law_starts vs H Q E h)
end K4
end
section
set_option Elab.async false
set_option linter.all false
set_option maxRecDepth 100000
set_option maxHeartbeats 4000000
namespace K4
open PySem PySem.Spec PyProof.Rows L2 PySem.W
variable {P : Program} {w : World} {K : PySem.W.Frag} {mg : Str → Option Value} {base : Heap} {T : List (Addr × Str)}

def mTold (r c : Int) (fs : Throws) : DMeas := fs.foldl (fun d e => putD d (mLNormal r c e.1) (((getD' d (mLNormal r c e.1)).getD 0) + e.2)) []
def mMeasure (r c : Int) (fs : Throws) : Meas := mTidied (mTold r c fs)
def sp_law_measure (K : PySem.W.Frag) (T : List (Addr × Str)) : Sp := fun vs H Q _ => ∃ S v u w r c fs, Dom S H ∧ vs = [v, u, w] ∧ Rep (hd S H) v r ∧ Rep (hd S H) u c ∧ Rep (hd S H) w fs ∧ (fs.length ≤ 500 ∧ (∀ e ∈ fs, e.1.length ≤ 60) ∧ okD (mTold r c fs)) ∧ ∀ y H', Le T H H' → Rep (hd S H') y (mMeasure r c fs) → Ex (hd S H') y → Q y H'
theorem len_law_measure {ps : List Str} (h : ps.length = 3) : ∀ vs H Q E, sp_law_measure K T vs H Q E → vs.length = ps.length := fun vs H Q E q => by
  obtain ⟨S, v, u, w, r, c, fs, _, rfl, _⟩ := q
  exact h.symm
theorem getD_nodup {α β : Type} [DecidableEq α] : ∀ {m : List (α × β)} {e : α × β}, (m.map (·.1)).Nodup → e ∈ m → getD' m e.1 = some e.2
  | [], e, _, h => nomatch h
  | x :: m, e, nd, h => by
    unfold getD'
    rw [List.map_cons, List.nodup_cons] at nd
    rw [List.find?_cons]
    rcases List.mem_cons.mp h with rfl | h
    · simp
    · have ne : x.1 ≠ e.1 := fun z => nd.1 (z ▸ List.mem_map.mpr ⟨e, h, rfl⟩)
      rw [decide_eq_false ne]
      exact getD_nodup nd.2 h
theorem ev_dgetTL {α β : Type} [DecidableEq α] [Datum α] [KeyL α] [DecidableEq β] [Datum β] [AtV β] {σ : L2.St} {G : Hp} {n : Nat} {p : Addr} {od : Obj} {tk : TE} {m : List (α × β)} {x : α} {y : β} (hn : σ[n]? = some (some (.ref p))) (hk : EvR T tk σ G x) (hm : G p = some (.frz od (.dT (m.map kE)))) (hx : getD' m x = some y) : EvR T (tDGet (tVar n) tk) σ G y := fun S H1 s Q q =>
  ⟨.ref p, hn, hk S H1 s _ fun v H2 e2 r2 => by
    obtain ⟨a, rfl, ha⟩ := KeyL.real r2
    exact ⟨p, AtV.vV y, rfl, .inr ⟨_, kT x, a, .inr ⟨od, (s.go e2).rd hm trivial⟩, rfl, ha, by rw [get_kE, hx] <;> rfl⟩, q _ H2 e2 (AtV.rep _ _)⟩⟩
theorem told_len (r c : Int) : ∀ (fs : Throws) (d : DMeas), (fs.foldl (fun d e => putD d (mLNormal r c e.1) (((getD' d (mLNormal r c e.1)).getD 0) + e.2)) d).length ≤ d.length + fs.length
  | [], d => by simp
  | e :: fs, d => by
    have h1 := told_len r c fs (putD d (mLNormal r c e.1) (((getD' d (mLNormal r c e.1)).getD 0) + e.2))
    have h2 := putD_len d (mLNormal r c e.1) (((getD' d (mLNormal r c e.1)).getD 0) + e.2)
    simp only [List.foldl_cons, List.length_cons]
    omega
abbrev n_law_measure : List Str := ["_law_high", "_law_wide", "_law_throws_here", "_law_told", "_law_shared", "_law_lines", "_law_weight", "_law_one"]
theorem sc_law_measure : FnScope n_law_measure ["_law_high", "_law_wide", "_law_throws_here"] (defScope s_law_measure) := ⟨rfl, rfl, rfl, by decide +kernel, rfl, by decide +kernel, by decide +kernel⟩
def t_law_measure (K : PySem.W.Frag) (T : List (Addr × Str)) : TS := (tSeq (tAsg (tTup (tCons tDNewT (tCons (tC (.int 0)) tNil))) (gTup K 2 (gCons (gName 3) (gCons (gName 4) gNil))))
  (tSeq (tFor (iList K (tVar 2)) (gTup K 2 (gCons (gName 5) (gCons (gName 6) gNil)))
   (tSeq (tAsg (tCall (sp_law_normal K T) [] E0 (tCons (tVar 0) (tCons (tVar 1) (tCons (tVar 5) tNil)))) (gName 7))
  (sDPut (tVar 3) (tVar 7) (tOp (rI0 fun i j => .int (i + j)) (tDGet2 (tVar 3) (tVar 7) (tC (.int 0))) (tVar 6)))))
  (tSeq (tLock (tFor (iKeys (tVar 3)) (gName 7)
   (tAsg (tCall (sp_law_common K T) [] E0 (tCons (tDGet (tVar 3) (tVar 7)) (tCons (tVar 4) tNil))) (gName 4))))
  (tRet (tThen (tLc (iList K (tCB rSortDT (tCons (tVar 3) tNil))) (gName 7) tYes (tTup (tCons (tVar 7) (tCons (tOp (rI CDivW fun i j => .int (i / j)) (tDGet (tVar 3) (tVar 7)) (tVar 4)) tNil))) [7]) (kTupF K))))))
theorem der_law_measure {k : Nat} {f : Addr} {cdv : Value} {A : Around} {outer : List Env} {s : Shared} {H : Hp} {E : XK} (F : Fx mg) (C_law_normal : Cal P w K mg base k "_law_normal" ["_law_high", "_law_wide", "_law_lines"] (sp_law_normal K T)) (C_law_common : Cal P w K mg base k "_law_common" ["_law_one", "_law_other"] (sp_law_common K T)) (hr : Room k (A.deeper (envOfC "_law_measure" (defScope s_law_measure) s.heap.objs.size f cdv))) :
    PSs (cxOf CX0 P w K mg base n_law_measure "_law_measure" (defScope s_law_measure) f cdv A outer s H E).nox (defBody s_law_measure) (t_law_measure K T) :=
  (pss_cons (ps_asg (pe_tup (pa_cons pe_dnewT (pa_cons pe_int pa_nil))) (pg_tup rfl (pgs_cons (pg_name (i := 3) sc_law_measure.nd rfl (.inr rfl)) (pgs_cons (pg_name (i := 4) sc_law_measure.nd rfl (.inr rfl)) pgs_nil))))
  (pss_cons (ps_for PassesOwn.never rfl (pi_list (pv 2)) (pg_tup rfl (pgs_cons (pg_name (i := 5) sc_law_measure.nd rfl (.inl rfl)) (pgs_cons (pg_name (i := 6) sc_law_measure.nd rfl (.inl rfl)) pgs_nil)))
   (pss_cons (ps_set (i := 7) sc_law_measure.nd rfl (.inl rfl) (pe_cal C_law_normal hr (by rfl) (pa_cons (pv 0) (pa_cons (pv 1) (pa_cons (pv 5) pa_nil)))))
  (pss_one (ps_dput (hu1 hr) (pv 3) (pv 7) (pe_op op_add (pe_dget2 (hu1 hr) (pv 3) (pv 7) pe_int ⟨rfl, rfl, rfl, rfl⟩) (pv 6)) rfl))))
  (pss_cons (ps_lock (ps_for PassesOwn.never rfl (pi_keys (pv 3)) (pg_name (i := 7) sc_law_measure.nd rfl (.inl rfl))
   (pss_one (ps_set (i := 4) sc_law_measure.nd rfl (.inr rfl) (pe_cal C_law_common hr (by rfl) (pa_cons (pe_dget (hu1 hr) (pv 3) (pv 7) (fun _ _ => rfl)) (pa_cons (pv 4) pa_nil)))))))
  (pss_one (ps_ret (pe_tupleF (by rfl) F.b_tuple (pe_lc (own := [("_law_one", 7)]) (g := (gName 7)) (tt := tYes) rfl sc_law_measure.nd (pi_list (pe_callB (cr_sortDT rfl hr.units) (by rfl) F.b_sorted (by decide +kernel) (pa_cons (pv 3) pa_nil))) (blkOk_by (own := [("_law_one", 7)]) (N := n_law_measure) (sc := defScope s_law_measure) (by decide +kernel)) (fun _ _ _ _ _ => (pg_name (i := 7) sc_law_measure.nd rfl (.inl rfl))) (fun _ _ _ _ _ => pts_nil) (fun _ _ _ _ _ => (pe_tup (pa_cons (pv 7) (pa_cons (pe_op op_fdivW (pe_dget (hu1 hr) (pv 3) (pv 7) (fun _ _ => rfl)) (pv 4)) pa_nil)))))))))))
theorem law_items {S : List Addr} {H : Hp} {p : Addr} {m : DMeas} {sh : Int} {a b c d e f : Option V} (hm : IsDT (hd S H) p m) (ok : okD m) (hs : sh = mShared m) :
    EvN T (tLc (iList K (tCB rSortDT (tCons (tVar 3) tNil))) (gName 7) tYes (tTup (tCons (tVar 7) (tCons (tOp (rI CDivW fun i j => .int (i / j)) (tDGet (tVar 3) (tVar 7)) (tVar 4)) tNil))) [7]) [a, b, c, some (V.ref p), some (V.int sh), d, e, f] (hd S H) (((lsort (m.map fun e => e.1.items)).map Tup.mk).map fun k => (k, valD m k / mShared m)) := by
  obtain ⟨nd, ne, ml, pos⟩ := ok
  have sg := shared_go m 0 (by decide) fun e he => (pos e he).1
  have hlen : ((lsort (m.map fun e => e.1.items)).map Tup.mk).length ≤ 500 := by
    rw [List.length_map, (lsort_perm _).length_eq, List.length_map]
    exact ml
  refine en_map _ (sr_list (en_sortDT rfl hm (by omega)).r) tgm_name (by omega) fun k hk v S' H' s rk => ⟨rfl, rfl, ?_⟩
  have hmem : k ∈ m.map (·.1) := by
    obtain ⟨l, hl, rfl⟩ := List.mem_map.mp hk
    obtain ⟨e, he, rfl⟩ := List.mem_map.mp ((lsort_perm _).mem_iff.mp hl)
    exact List.mem_map.mpr ⟨e, he, rfl⟩
  obtain ⟨y, hy⟩ := getD'_some hmem
  have hv : valD m k = y := by unfold valD; rw [hy] <;> rfl
  rw [hv, ← hs]
  have hsh : 0 < sh ∧ sh ≤ B30 := by
    rw [hs]
    refine ⟨sg.2.1 ne, ?_⟩
    obtain ⟨e, he⟩ := List.exists_mem_of_ne_nil m ne
    exact Int.le_trans (sg.2.2 e he) (pos e he).2
  exact ev_tup2 (ev_var rfl rk) (ev_opI (ev_dgetT rfl (ev_var rfl rk) (s.le.soft hm trivial) hy) (ev_var (x := sh) rfl rep_int) (cdiv hsh.1 (by have := hsh.2; unfold B30 at this; omega)))
theorem pure_law_measure (vs : List V) (H : Hp) (Q : VK) (E : XK) (h : sp_law_measure K T vs H Q E) : t_law_measure K T { nx := fun _ H' => Q .non H', rt := Q } (start n_law_measure vs) H := by
  obtain ⟨S, v, u, w, r, c, fs, dom, rfl, hr, hc, hw, ⟨fl, fk, ok'⟩, q⟩ := h
  have ok := ok'
  obtain ⟨nd, ne, ml, pos⟩ := ok
  have s0 : Sg T (hd S H) S H := ⟨dom, .same⟩
  refine fun p hp => ⟨by show (2 : Nat) ≤ sizeLine; decide, fun t ht => ⟨t, _, rfl, .inl (.inl upd_same), rfl, .ref p, [.int 0], rfl, .int 0, [], rfl, rfl, ?_⟩⟩
  have sD := s0.hide (o := .dT []) hp trivial
  have n1 : MS T S (hd S H) H p (oD (α := Tup Int) (β := Int) []) (upd (upd H p (.dT [])) t (.tup [.ref p, .int 0])) := MS.init (T := T) dom .same (s0.fresh hp) ((Le.new hp).trans (.new ht)) ((le_hide_new s0 hp).trans ((Le.new (T := T) ht).hd sD.dom)) (by rw [upd_ne (fun z => by rw [z, upd_same] at ht; cases ht), upd_same] <;> rfl) trivial
  generalize upd (upd H p (.dT [])) t (.tup [.ref p, .int 0]) = H1 at n1 ⊢
  refine q_forL n1.s.up (ev_var rfl (hw.le n1.s.le)) (fun H2 i σ' H' => ∃ o5 o6 o7, σ' = [some v, some u, some w, some (.ref p), some (.int 0), o5, o6, o7] ∧ MS T S (hd (p :: S) H2) H p (oD (mTold r c (fs.take i))) H') (fun H2 e2 => ⟨none, none, none, rfl, (n1.go e2).base⟩) (fun H2 i σ' H' ⟨_, _, _, _, n⟩ => ⟨_, n.s⟩) ?_ ?_
  · rintro H2 i x vx σ' H' H'' e2 hi ⟨o5, o6, o7, rfl, n⟩ e3 rx
    have rx' := (rx _ n.s).shown
    have n3 := n.go e3
    refine g_pair rx' fun va vb ra rb => ?_
    have l3 := n3.le.hd dom
    refine q_asg n3.rd (ev_call3 (ev_var rfl (hr.le l3)) (ev_var rfl (hc.le l3)) (ev_var rfl ra) (fk x (List.mem_of_getElem? hi))) fun v7 H4 e4 r4 => ?_
    have n4 := n3.go e4
    have rb4 := rb.le (e4.hd n3.dom)
    have ht : mTold r c (fs.take (i + 1)) = putD (mTold r c (fs.take i)) (mLNormal r c x.1) (((getD' (mTold r c (fs.take i)) (mLNormal r c x.1)).getD 0) + x.2) := by
      unfold mTold
      rw [List.take_add_one, hi, List.foldl_append] <;> rfl
    refine s_dputT n4.rd rfl (ev_var rfl r4) (ev_opI0 (g := fun i j => i + j) (ev_dget2T rfl (ev_var rfl r4) (ev_int (i := 0)) n4.see) (ev_var rfl rb4)) n4.see ?_ fun H5 e5 => ?_
    · have h1 := told_len r c (fs.take i) []
      have h2 : (fs.take i).length ≤ fs.length := by rw [List.length_take]; omega
      have h3 : (mTold r c (fs.take i)).length ≤ 0 + (fs.take i).length := h1
      omega
    · refine ⟨_, _, _, rfl, ?_⟩
      rw [ht]
      exact (n4.go e5).set (u := oD (putD (mTold r c (fs.take i)) (mLNormal r c x.1) (((getD' (mTold r c (fs.take i)) (mLNormal r c x.1)).getD 0) + x.2))) trivial
  · rintro H2 σ' H' e2 ⟨o5, o6, o7, rfl, n⟩
    rw [List.take_length] at n
    generalize hm0 : mTold r c fs = m at n ok' nd ne ml pos
    have s1 := n.rd
    have hm1 := n.its
    refine q_lockS (u := .dT (m.map kE)) s1 trivial trivial n.see fun od => ?_
    have dl := dom_lock (o := od) s1.dom hm1 n.np
    have hg : hd S (upd H' p (.frz od (.dT (m.map kE)))) p = some (.frz od (.dT (m.map kE))) := by rw [hd_out n.np, upd_same]
    refine s_forS (S := S) (G := hd S (upd H' p (.frz od (.dT (m.map kE))))) ⟨dl, .same⟩ (sr_keysT (n := 3) rfl hg) (fun H3 i σ' H4 => ∃ o, σ' = [some v, some u, some w, some (.ref p), some (.int ((m.take i).foldl (fun s e => mGcd e.2 s) 0)), o5, o6, o] ∧ Le T H3 H4 ∧ Sg T (hd S H3) S H4) (fun H3 e3 => ⟨o7, rfl, .same, ⟨(Sg.go (G := hd S (upd H' p (.frz od (.dT (m.map kE))))) ⟨dl, .same⟩ e3).dom, .same⟩⟩) (fun H3 i σ' H4 ⟨_, _, _, s'⟩ => ⟨S, s'⟩) ?_ ?_
    · rintro H3 i x vx σ' H4 H5 e3 hi ⟨o, rfl, e4, s4⟩ e5 rx
      have rx' := rx S s4
      have s5 := s4.go e5
      rw [List.getElem?_map] at hi
      cases he : m[i]? with
      | none => rw [he] at hi; cases hi
      | some e =>
        rw [he] at hi
        cases hi
        have hmem := List.mem_of_getElem? he
        have hpos := pos e hmem
        have sg := shared_go (m.take i) 0 (by decide) fun e he => (pos e (List.mem_of_mem_take he)).1
        have hb : (m.take i).foldl (fun s e => mGcd e.2 s) 0 ≤ B30 := by
          cases hmi : m.take i with
          | nil => show (0 : Int) ≤ B30; decide
          | cons a l =>
            rw [hmi] at sg
            exact Int.le_trans (sg.2.2 a List.mem_cons_self) (pos a (List.mem_of_mem_take (i := i) (by rw [hmi]; exact List.mem_cons_self))).2
        have ht : (m.take (i + 1)).foldl (fun s e => mGcd e.2 s) 0 = mGcd e.2 ((m.take i).foldl (fun s e => mGcd e.2 s) 0) := by
          rw [List.take_add_one, he, List.foldl_append]
          rfl
        have hg5 : hd S H5 p = some (.frz od (.dT (m.map kE))) := by
          rw [hd_out n.np]
          exact ((e3.trans e4).trans e5).soft upd_same trivial
        refine s_asg s5.up (ev_call2 (ev_dgetTL (m := m) rfl (ev_var rfl rx') hg5 (getD_nodup nd hmem)) (ev_var (x := (m.take i).foldl (fun s e => mGcd e.2 s) 0) rfl rep_int) ⟨by omega, by unfold B30 at hb; omega⟩) fun y H6 e6 r6 => ?_
        obtain rfl := of_int r6
        exact ⟨_, by rw [ht] <;> rfl, (e4.trans e5).trans e6, s5.go e6⟩
    · rintro H3 σ' H4 e3 ⟨o, rfl, e4, s4⟩
      rw [List.length_map, List.take_length]
      have eA := e3.trans e4
      have hp' : H4 p = some (.frz od (.dT (m.map kE))) := eA.soft upd_same trivial
      have eU : Le T H' (upd H4 p (.dT (m.map kE))) := Le.unlock hm1 trivial eA
      have n4 := n.go eU
      refine ⟨hp', ?_⟩
      refine ev_tupF (law_items (a := some v) (b := some u) (c := some w) (d := o5) (e := o6) (f := o) n4.see ok' rfl).r ?_ S _ n4.rd _ fun y H5 e5 r5 x5 => q y H5 (n4.le.trans e5) ?_ x5
      · intro z
        have h1 := congrArg List.length z
        rw [List.length_map, List.length_map, (lsort_perm _).length_eq, List.length_map] at h1
        exact ne (List.length_eq_zero_iff.mp h1)
      · unfold mMeasure
        rw [hm0]
        exact r5
theorem cal_law_measure {k : Nat} (D : At K mg "_law_measure" s_law_measure) (F : Fx mg) (C_law_normal : Cal P w K mg base k "_law_normal" ["_law_high", "_law_wide", "_law_lines"] (sp_law_normal K T)) (C_law_common : Cal P w K mg base k "_law_common" ["_law_one", "_law_other"] (sp_law_common K T)) : Cal P w K mg base (k + 1) "_law_measure" ["_law_high", "_law_wide", "_law_throws_here"] (sp_law_measure K T) :=
  mk_cal D sc_law_measure (fun _ _ _ _ _ _ us hl => match us, hl with | [_, _, _], _ => rfl) (len_law_measure rfl) (fun f cdv A outer s H E hr => der_law_measure F C_law_normal C_law_common hr) (fun vs H Q E h => pure_law_measure vs H Q E h)
end K4
end
section
set_option Elab.async false
set_option linter.all false
set_option maxRecDepth 100000
set_option maxHeartbeats 4000000
namespace K4
open PySem PySem.Spec PyProof.Rows L2 PySem.W
variable {P : Program} {w : World} {K : PySem.W.Frag} {mg : Str → Option Value} {base : Heap} {T : List (Addr × Str)}

abbrev n_law_alike : List Str := ["_law_found", "_law_due", "_law_k"]
theorem sc_law_alike : FnScope n_law_alike ["_law_found", "_law_due"] (defScope s_law_alike) := ⟨rfl, rfl, rfl, by decide +kernel, rfl, by decide +kernel, by decide +kernel⟩
def t_law_alike (spr : Sp) (K : PySem.W.Frag) (T : List (Addr × Str)) : TS := (tSeq (tIfS (tB (tCB (rIsiT K) (tCons (tVar 1) (tCons (tTup (tCons (tC (.ty "tuple")) (tCons (tC (.ty "list")) tNil))) tNil)))) (tSeq (tIfS (tOr (tNot (tB (tCB (rIsiT K) (tCons (tVar 0) (tCons (tTup (tCons (tC (.ty "tuple")) (tCons (tC (.ty "list")) tNil))) tNil))))) (tTest (tOp (rNeQ Bool) (tCB (rIsi K) (tCons (tVar 0) (tCons (tC (.ty "list")) tNil))) (tCB (rIsi K) (tCons (tVar 1) (tCons (tC (.ty "list")) tNil)))))) (tRet (tC (.bl false))) tNext)
  (tSeq (tIfS (tTest (tOp (rNeQ Int) (tCB (rLenS K) (tCons (tVar 0) tNil)) (tCB (rLenS K) (tCons (tVar 1) tNil)))) (tRet (tC (.bl false))) tNext)
  (tRet (tOp (rEqQ (List Int)) (tLc (iRng1 (tCons (tCB (rLenS K) (tCons (tVar 1) tNil)) tNil)) (gName 2) (tNot (tB (tCall spr [] E0 (tCons (tOp (rIxT K) (tVar 0) (tVar 2)) (tCons (tOp (rIxT K) (tVar 1) (tVar 2)) tNil))))) (tVar 2) [2]) (tLst tNil))))) tNext)
  (tSeq (tIfS (tOr (tTest (tOp (fun x y H Q => y = .non ∧ Q (.bl (decide (x = .non))) H) (tVar 1) (tC .non))) (tB (tCB (rIsi K) (tCons (tVar 1) (tCons (tC (.ty "str")) tNil))))) (tRet (tAndV (tOp (rEqQ Unit) (tVar 0) (tVar 1)) (tOp (rEqQ Bool) (tCB (rIsi K) (tCons (tVar 0) (tCons (tC (.ty "str")) tNil))) (tCB (rIsi K) (tCons (tVar 1) (tCons (tC (.ty "str")) tNil)))))) tNext)
  (tRet (tAndV (tCB (rIsi K) (tCons (tVar 0) (tCons (tC (.ty "int")) tNil))) (tAndV (tOp (rEqQ Bool) (tCB (rIsi K) (tCons (tVar 0) (tCons (tC (.ty "bool")) tNil))) (tCB (rIsi K) (tCons (tVar 1) (tCons (tC (.ty "bool")) tNil)))) (tOp (rEqQ Int) (tVar 0) (tVar 1)))))))
theorem der_law_alike {spr : Sp} {k : Nat} {f : Addr} {cdv : Value} {A : Around} {outer : List Env} {s : Shared} {H : Hp} {E : XK} (F : Fx mg) (C_law_alike : Cal P w K mg base k "_law_alike" ["_law_found", "_law_due"] spr) (hr : Room k (A.deeper (envOfC "_law_alike" (defScope s_law_alike) s.heap.objs.size f cdv))) :
    PSs (cxOf CX0 P w K mg base n_law_alike "_law_alike" (defScope s_law_alike) f cdv A outer s H E).nox (defBody s_law_alike) (t_law_alike spr K T) :=
  (pss_cons (ps_if (pt_val (pe_callB call_isiT (by rfl) F.b_isinstance (by decide +kernel) (pa_cons (pv 1) (pa_cons (pe_tup (pa_cons (pe_bltn (v := .ty "tuple") (by rfl) F.b_tuple (by decide +kernel) rfl) (pa_cons (pe_bltn (v := .ty "list") (by rfl) F.b_list (by decide +kernel) rfl) pa_nil))) pa_nil)))) (pss_cons (ps_if (PW.pt (pw_or (pt_not (pt_val (pe_callB call_isiT (by rfl) F.b_isinstance (by decide +kernel) (pa_cons (pv 0) (pa_cons (pe_tup (pa_cons (pe_bltn (v := .ty "tuple") (by rfl) F.b_tuple (by decide +kernel) rfl) (pa_cons (pe_bltn (v := .ty "list") (by rfl) F.b_list (by decide +kernel) rfl) pa_nil))) pa_nil))))) (pw_or1 (pt_cmpR (op_neQ hr.units) (pe_callB call_isi (by rfl) F.b_isinstance (by decide +kernel) (pa_cons (pv 0) (pa_cons (pe_bltn (v := .ty "list") (by rfl) F.b_list (by decide +kernel) rfl) pa_nil))) (pe_callB call_isi (by rfl) F.b_isinstance (by decide +kernel) (pa_cons (pv 1) (pa_cons (pe_bltn (v := .ty "list") (by rfl) F.b_list (by decide +kernel) rfl) pa_nil))) (nomark _))))) (pss_one (ps_ret pe_bl)) pss_nil)
  (pss_cons (ps_if (pt_cmpR (op_neQ hr.units) (pe_callB call_len_seq (by rfl) F.b_len (by decide +kernel) (pa_cons (pv 0) pa_nil)) (pe_callB call_len_seq (by rfl) F.b_len (by decide +kernel) (pa_cons (pv 1) pa_nil)) (nomark _)) (pss_one (ps_ret pe_bl)) pss_nil)
  (pss_one (ps_ret (pe_cmpR (op_eqQ hr.units) (pe_lc (own := [("_law_k", 2)]) (g := (gName 2)) (tt := (tNot (tB (tCall spr [] E0 (tCons (tOp (rIxT K) (tVar 0) (tVar 2)) (tCons (tOp (rIxT K) (tVar 1) (tVar 2)) tNil)))))) rfl sc_law_alike.nd (pi_range1 (by rfl) F.b_range (pa_cons (pe_callB call_len_seq (by rfl) F.b_len (by decide +kernel) (pa_cons (pv 1) pa_nil)) pa_nil)) (blkOk_by (own := [("_law_k", 2)]) (N := n_law_alike) (sc := defScope s_law_alike) (by decide +kernel)) (fun _ _ _ _ _ => (pg_name (i := 2) sc_law_alike.nd rfl (.inl rfl))) (fun _ _ _ _ _ => (pts_one (pt_not (pt_val (pe_cal C_law_alike hr (by rfl) (pa_cons (pe_ix ix_tup (pv 0) (pv 2) (fun _ _ => rfl)) (pa_cons (pe_ix ix_tup (pv 1) (pv 2) (fun _ _ => rfl)) pa_nil))))))) (fun _ _ _ _ _ => (pv 2))) (pe_lst pa_nil) (nomark _)))))) pss_nil)
  (pss_cons (ps_if (PW.pt (pw_or (pt_cmpR (op_isN) (pv 1) pe_non (nomark _)) (pw_or1 (pt_val (pe_callB call_isi (by rfl) F.b_isinstance (by decide +kernel) (pa_cons (pv 1) (pa_cons (pe_bltn (v := .ty "str") (by rfl) F.b_str (by decide +kernel) rfl) pa_nil))))))) (pss_one (ps_ret (pe_and (pe_cmpR (op_eqQ hr.units) (pv 0) (pv 1) (nomark _)) (pe_one (pe_cmpR (op_eqQ hr.units) (pe_callB call_isi (by rfl) F.b_isinstance (by decide +kernel) (pa_cons (pv 0) (pa_cons (pe_bltn (v := .ty "str") (by rfl) F.b_str (by decide +kernel) rfl) pa_nil))) (pe_callB call_isi (by rfl) F.b_isinstance (by decide +kernel) (pa_cons (pv 1) (pa_cons (pe_bltn (v := .ty "str") (by rfl) F.b_str (by decide +kernel) rfl) pa_nil))) (nomark _)))))) pss_nil)
  (pss_one (ps_ret (pe_and (pe_callB call_isi (by rfl) F.b_isinstance (by decide +kernel) (pa_cons (pv 0) (pa_cons (pe_bltn (v := .ty "int") (by rfl) F.b_int (by decide +kernel) rfl) pa_nil))) (pe_and (pe_cmpR (op_eqQ hr.units) (pe_callB call_isi (by rfl) F.b_isinstance (by decide +kernel) (pa_cons (pv 0) (pa_cons (pe_bltn (v := .ty "bool") (by rfl) F.b_bool (by decide +kernel) rfl) pa_nil))) (pe_callB call_isi (by rfl) F.b_isinstance (by decide +kernel) (pa_cons (pv 1) (pa_cons (pe_bltn (v := .ty "bool") (by rfl) F.b_bool (by decide +kernel) rfl) pa_nil))) (nomark _)) (pe_one (pe_cmpR (op_eqQ hr.units) (pv 0) (pv 1) (nomark _)))))))))
theorem ev_pairIx {σ : L2.St} {G : Hp} {ta tb : TE} {x : Int × Int} {k : Int} (ha : EvR T ta σ G x) (hb : EvR T tb σ G k) (hk : k = 0 ∨ k = 1) : EvR T (tOp (rIxT K) ta tb) σ G (if k = 0 then x.1 else x.2) :=
  ev_op2 ha hb fun v u S H1 Q h1 h2 _ q => by
    obtain ⟨a, vx, vy, rfl, hL, hx, hy⟩ := of_pair h1
    rcases hk with rfl | rfl
    · exact ⟨a, [vx, vy], 0, vx, rfl, of_int h2, .inl (hd_rd hL), rfl, q _ _ .same hx⟩
    · exact ⟨a, [vx, vy], 1, vy, rfl, of_int h2, .inl (hd_rd hL), rfl, q _ _ .same hy⟩
def spA0 (T : List (Addr × Str)) : Sp := Pu2 T (fun x y : Int => x = y) fun _ _ => true
def sp_law_alike (K : PySem.W.Frag) (T : List (Addr × Str)) : Sp := fun vs H Q E => Pu2 T (fun x y : Int × Int => x = y) (fun _ _ => true) vs H Q E ∨ Pu2 T (fun x y : Unit => x = y) (fun _ _ => true) vs H Q E
theorem alike_int {spr : Sp} (vs : List V) (H : Hp) (Q : VK) (E : XK) (h : spA0 T vs H Q E) : t_law_alike spr K T { nx := fun _ H' => Q .non H', rt := Q } (start n_law_alike vs) H := by
  obtain ⟨S, v, u, x, y, dom, rfl, hx, hy, rfl, q⟩ := h
  have s0 : Sg T (hd S H) S H := ⟨dom, .same⟩
  refine q_skip s0 (et_B (ev_isiT2 false false (ev_var rfl hy) (by decide +kernel) (by decide +kernel))) fun H1 e1 => ?_
  have l1 := e1.hd dom
  refine q_skip (s0.go e1).up (et_is (et_or (b := false) (et_test (ev_op2 (x := x) (y := ()) (z := false) (ev_var rfl (hy.le l1)) ev_non fun v u S H1 Q h1 h2 _ q => ⟨of_non h2, q _ _ .same (by rw [of_int h1, decide_eq_false (by intro z; cases z)]; exact rep_bl)⟩)) fun _ => et_B (ev_isi false (ev_var rfl (hy.le l1)) (by decide +kernel))) rfl) fun H2 e2 => ?_
  have l2 := (e1.trans e2).hd dom
  exact s_ret ((s0.go e1).go e2).up (ev_is (ev_andV (ev_isi true (ev_var rfl (hx.le l2)) (by decide +kernel)) fun _ => ev_andV (ev_eq (ev_isi false (ev_var rfl (hx.le l2)) (by decide +kernel)) (ev_isi false (ev_var rfl (hy.le l2)) (by decide +kernel))) fun _ => ev_eq (ev_var rfl (hx.le l2)) (ev_var rfl (hy.le l2))) (by simp)) fun z H3 e3 r3 => q _ _ ((e1.trans e2).trans e3) r3
theorem alike_non {spr : Sp} (vs : List V) (H : Hp) (Q : VK) (E : XK) (h : Pu2 T (fun x y : Unit => x = y) (fun _ _ => true) vs H Q E) : t_law_alike spr K T { nx := fun _ H' => Q .non H', rt := Q } (start n_law_alike vs) H := by
  obtain ⟨S, v, u, x, y, dom, rfl, hx, hy, rfl, q⟩ := h
  have s0 : Sg T (hd S H) S H := ⟨dom, .same⟩
  refine q_skip s0 (et_B (ev_isiT2 false false (ev_var rfl hy) (by decide +kernel) (by decide +kernel))) fun H1 e1 => ?_
  have l1 := e1.hd dom
  refine q_if1 (s0.go e1).up (et_or (b := true) (c := true) (et_test (ev_op2 (x := x) (y := ()) (z := true) (ev_var rfl (hy.le l1)) ev_non fun v u S H1 Q h1 h2 _ q => ⟨of_non h2, q _ _ .same (by rw [of_non h1, decide_eq_true rfl]; exact rep_bl)⟩)) fun z => by cases z) (fun _ H2 e2 => ?_) fun z => by cases z
  have l2 := (e1.trans e2).hd dom
  exact s_ret ((s0.go e1).go e2).up (ev_is (ev_andV (ev_eq (ev_var rfl (hx.le l2)) (ev_var rfl (hy.le l2))) fun _ => ev_eq (ev_isi false (ev_var rfl (hx.le l2)) (by decide +kernel)) (ev_isi false (ev_var rfl (hy.le l2)) (by decide +kernel))) (by simp)) fun z H3 e3 r3 => q _ _ ((e1.trans e2).trans e3) r3
theorem alike_pair (vs : List V) (H : Hp) (Q : VK) (E : XK) (h : Pu2 T (fun x y : Int × Int => x = y) (fun _ _ => true) vs H Q E) : t_law_alike (spA0 T) K T { nx := fun _ H' => Q .non H', rt := Q } (start n_law_alike vs) H := by
  obtain ⟨S, v, u, x, y, dom, rfl, hx, hy, rfl, q⟩ := h
  have s0 : Sg T (hd S H) S H := ⟨dom, .same⟩
  refine q_if1 s0 (et_B (ev_isiT2 true false (ev_var rfl hy) (by decide +kernel) (by decide +kernel))) (fun _ H1 e1 => ?_) fun z => by cases z
  have l1 := e1.hd dom
  refine q_skip (s0.go e1).up (et_is (et_or (et_not (et_B (ev_isiT2 true false (ev_var rfl (hx.le l1)) (by decide +kernel) (by decide +kernel)))) fun _ => et_test (ev_ne (ev_isi false (ev_var rfl (hx.le l1)) (by decide +kernel)) (ev_isi false (ev_var rfl (hy.le l1)) (by decide +kernel)))) rfl) fun H2 e2 => ?_
  have s2 := (s0.go e1).go e2
  have l2 := (e1.trans e2).hd dom
  refine q_skip s2.up (et_is (et_test (ev_ne (ev_lenP (ev_var rfl (hx.le l2))) (ev_lenP (ev_var rfl (hy.le l2))))) rfl) fun H3 e3 => ?_
  have s3 := s2.go e3
  have l3 := ((e1.trans e2).trans e3).hd dom
  refine s_ret s3.up (ev_is (ev_eq (en_lc (fun _ => false) (fun k => k) (sr_r1 (ev_lenP (ev_var rfl (hy.le l3))) (by decide) (by decide)) tgm_name (by decide) fun k hk v' S' H' s rk => ⟨rfl, rfl, et_is (et_not (et_B (ev_call2 (ev_pairIx (ev_var rfl ((hx.le l3).le s.le)) (ev_var rfl rk) ?_) (ev_pairIx (ev_var rfl ((hy.le l3).le s.le)) (ev_var rfl rk) ?_) rfl))) rfl, fun z => by cases z⟩).r (en_lst (xs := ([] : List Int)) eas_nil (by decide)).r) (by simp)) fun z H4 e4 r4 => q _ _ (((e1.trans e2).trans e3).trans e4) r4
  all_goals
    have := rng_mem hk
    omega
theorem cal_spF {x : Str} {st : Stmt} {N ps : List Str} {k : Nat} (D : At K mg x st) (S : FnScope N ps (defScope st)) (hb : ∀ (kV doc pm : Value) (an : Option Addr) (cdv ct : Value) (us : List Value), us.length = ps.length → bindArgs (PySem.W.fnOf x x (defArgs st) (defBody st) (defScope st) .none kV doc pm an cdv ct) ⟨us, []⟩ = pure (ps.zip us)) : Cal P w K mg base (k + 1) x ps fun _ _ _ _ => False := by
  obtain ⟨f, fd, hf, F⟩ := D
  exact ⟨f, fd, hf, F.kp, F.bindsN hb, F.ok S (fun _ _ _ _ h => h.elim) fun cdv A outer s H vs Q E hr h => h.elim⟩
theorem cal_law_alike {k : Nat} (D : At K mg "_law_alike" s_law_alike) (F : Fx mg) : Cal P w K mg base (k + 3) "_law_alike" ["_law_found", "_law_due"] (sp_law_alike K T) := by
  have hb : ∀ (kV doc pm : Value) (an : Option Addr) (cdv ct : Value) (us : List Value), us.length = 2 → bindArgs (PySem.W.fnOf "_law_alike" "_law_alike" (defArgs s_law_alike) (defBody s_law_alike) (defScope s_law_alike) .none kV doc pm an cdv ct) ⟨us, []⟩ = (Pure.pure ((["_law_found", "_law_due"] : List Str).zip us) : Sem (List (Str × Value))) := fun _ _ _ _ _ _ us hl => match us, hl with | [_, _], _ => rfl
  have C0 : Cal P w K mg base (k + 1) "_law_alike" ["_law_found", "_law_due"] fun _ _ _ _ => False := cal_spF D sc_law_alike hb
  have C1 : Cal P w K mg base (k + 2) "_law_alike" ["_law_found", "_law_due"] (spA0 T) := mk_cal D sc_law_alike hb (Pu2.len rfl) (fun f cdv A outer s H E hr => der_law_alike F C0 hr) (fun vs H Q E h => alike_int vs H Q E h)
  exact mk_cal D sc_law_alike hb (fun vs H Q E h => h.elim (Pu2.len rfl vs H Q E) (Pu2.len rfl vs H Q E)) (fun f cdv A outer s H E hr => der_law_alike F C1 hr) (fun vs H Q E h => h.elim (alike_pair vs H Q E) (alike_non vs H Q E))
end K4
end
section
set_option Elab.async false
set_option linter.all false
set_option maxRecDepth 100000
set_option maxHeartbeats 4000000
namespace K4
open PySem PySem.Spec PyProof.Rows L2 PySem.W
/-! the effects of a board -/
def lists (ls : List Int) : Nat → List (List Int)
  | 0 => [[]]
  | n + 1 => [] :: (lists ls n).flatMap fun t => ls.map fun l => l :: t
def dedupT : List (Tup Int) → List (Tup Int)
  | [] => []
  | x :: xs => if x ∈ xs then dedupT xs else x :: dedupT xs
def effs (r c : Int) : List (Tup Int) := dedupT ((lists (rng 0 (r + c).toNat) 4).map (mLNormal r c))
def mulE (r c : Int) (f u : Tup Int) : Tup Int := mLNormal r c (f.items ++ u.items)
def chkMul (r c : Int) : Bool := (effs r c).all fun f => (effs r c).all fun u => decide (mulE r c f u ∈ effs r c)
def subL (a b : List Int) : Bool := a.all fun x => decide (x ∈ b)
def suppE (r c : Int) (u : Tup Int) : List Int := (mSupport r c u.items).items
def flats (r c : Int) : List (List Int) := ((effs r c).map (suppE r c)).eraseDups
def chkLaw (r c : Int) : Bool := (effs r c).all fun f => (effs r c).all fun u => decide (mulE r c f u ∈ effs r c) && (!subL (suppE r c f) (suppE r c u) || decide (mulE r c f u = u)) && subL (suppE r c u) (suppE r c (mulE r c f u)) && subL (suppE r c f) (suppE r c (mulE r c f u)) && (flats r c).all fun X => !(subL (suppE r c f) X && subL (suppE r c u) X) || subL (suppE r c (mulE r c f u)) X
set_option maxHeartbeats 0 in
theorem chkLaw_all : (([(1, 1), (1, 2), (2, 1), (2, 2), (1, 3)] : List (Int × Int)).all fun b => chkLaw b.1 b.2) = true := by decide +kernel
/-- the flats and their numbers -/
def FX (r c : Int) : List (List Int × Int) := (rng 0 (r + c).toNat, 1) :: (highsOf r).flatMap fun high => (widesOf r c).map fun wide => (high ++ wide, mTimesOf (r - high.length) (c - wide.length))
def tb (r c : Int) : List (List Nat) := (rng 0 (r + c).toNat).map fun l => (mPics r c).map fun p => (mPics r c).idxOf (mStroke p l)
def tbl : Int × Int → List (List Nat)
  | (1, 1) => [[0, 0], [1, 1]]
  | (1, 2) => [[0, 0, 0, 0], [1, 1, 3, 3], [2, 3, 2, 3]]
  | (2, 1) => [[0, 0, 2, 2], [0, 1, 0, 1], [3, 3, 3, 3]]
  | (2, 2) => [[0, 0, 0, 0, 4, 4, 4, 4, 8, 8, 8, 8, 12, 12, 12, 12], [0, 1, 2, 3, 0, 1, 2, 3, 0, 1, 2, 3, 0, 1, 2, 3], [5, 5, 7, 7, 5, 5, 7, 7, 13, 13, 15, 15, 13, 13, 15, 15], [10, 11, 10, 11, 14, 15, 14, 15, 10, 11, 10, 11, 14, 15, 14, 15]]
  | (1, 3) => [[0, 0, 0, 0, 0, 0, 0, 0], [1, 1, 3, 3, 5, 5, 7, 7], [2, 3, 2, 3, 6, 7, 6, 7], [4, 5, 6, 7, 4, 5, 6, 7]]
  | _ => []
set_option maxHeartbeats 0 in
theorem tb_eq : (([(1, 1), (1, 2), (2, 1), (2, 2), (1, 3)] : List (Int × Int)).all fun b => decide (tb b.1 b.2 = tbl b)) = true := by decide +kernel
def playI (t : List (List Nat)) (i : Nat) (w : List Int) : Nat := w.foldl (fun i l => (t.getD l.toNat []).getD i 0) i
def boards5 : List (Int × Int) := [(1, 1), (1, 2), (2, 1), (2, 2), (1, 3)]
def numP (b : Int × Int) : Nat := 2 ^ (b.1 * b.2).toNat
def chkPlay (b : Int × Int) : Bool := (effs b.1 b.2).all fun f => (effs b.1 b.2).all fun u => (List.range (numP b)).all fun i => playI (tbl b) (playI (tbl b) i f.items) u.items == playI (tbl b) i (mulE b.1 b.2 f u).items
def chkFix (b : Int × Int) : Bool := (effs b.1 b.2).all fun u => decide ((((List.range (numP b)).filter fun i => playI (tbl b) i u.items == i).length : Int) = (((FX b.1 b.2).filter fun x => subL (suppE b.1 b.2 u) x.1).map (·.2)).sum)
def chkFX (b : Int × Int) : Bool := ((FX b.1 b.2).all fun x => decide (0 < x.2)) && (effs b.1 b.2).all fun f => (effs b.1 b.2).all fun u => (FX b.1 b.2).all fun X => subL (suppE b.1 b.2 (mulE b.1 b.2 f u)) X.1 == (subL (suppE b.1 b.2 f) X.1 && subL (suppE b.1 b.2 u) X.1)
def chkTb (b : Int × Int) : Bool := (tbl b).all (fun row => row.all (fun i => decide (i < numP b)) && decide (row.length = numP b)) && decide ((tbl b).length = (b.1 + b.2).toNat) && decide ((mPics b.1 b.2).length = numP b) && decide ((mPics b.1 b.2).Nodup)
set_option maxHeartbeats 0 in
theorem chkPlay_all : boards5.all chkPlay = true := by decide +kernel
set_option maxHeartbeats 0 in
theorem chkFix_all : boards5.all chkFix = true := by decide +kernel
set_option maxHeartbeats 0 in
theorem chkFX_all : boards5.all chkFX = true := by decide +kernel
set_option maxHeartbeats 0 in
theorem chkTb_all : boards5.all chkTb = true := by decide +kernel
end K4
end
section
set_option linter.all false
set_option autoImplicit false
/-! the mathematics, with no program in sight: sums over places -/
namespace K4
theorem perm_sum {l k : List Int} (h : l.Perm k) : l.sum = k.sum := by
  induction h with
  | nil => rfl
  | cons x _ ih => simp only [List.sum_cons, ih]
  | swap x y l => simp only [List.sum_cons]; omega
  | trans _ _ h1 h2 => exact h1.trans h2
theorem sum_add {α : Type} (f g : α → Int) : ∀ l : List α, (l.map fun x => f x + g x).sum = (l.map f).sum + (l.map g).sum
  | [] => rfl
  | x :: l => by
    simp only [List.map_cons, List.sum_cons, sum_add f g l]
    omega
theorem sum_mul {α : Type} (c : Int) (f : α → Int) : ∀ l : List α, (l.map fun x => c * f x).sum = c * (l.map f).sum
  | [] => by simp
  | x :: l => by simp only [List.map_cons, List.sum_cons, sum_mul c f l, Int.mul_add]
theorem sum_zero {α : Type} : ∀ l : List α, (l.map fun _ => (0 : Int)).sum = 0
  | [] => rfl
  | x :: l => by simp only [List.map_cons, List.sum_cons, sum_zero l, Int.add_zero]
theorem sum_congr {α : Type} {f g : α → Int} : ∀ {l : List α}, (∀ x ∈ l, f x = g x) → (l.map f).sum = (l.map g).sum
  | [], _ => rfl
  | x :: l, h => by
    simp only [List.map_cons, List.sum_cons]
    rw [h x List.mem_cons_self, sum_congr fun y hy => h y (List.mem_cons_of_mem _ hy)]
theorem sum_swap {α β : Type} (f : α → β → Int) : ∀ (l : List α) (k : List β), (l.map fun x => (k.map fun y => f x y).sum).sum = (k.map fun y => (l.map fun x => f x y).sum).sum
  | [], k => by simp only [List.map_nil, List.sum_nil]; exact (sum_zero k).symm
  | x :: l, k => by
    simp only [List.map_cons, List.sum_cons]
    rw [sum_swap f l k, ← sum_add]
/-- a sum with one place only -/
theorem sum_at {α : Type} [DecidableEq α] (f : α → Int) (a : α) : ∀ {l : List α}, l.Nodup → a ∈ l → (l.map fun x => if a = x then f x else 0).sum = f a
  | [], _, h => nomatch h
  | x :: l, nd, h => by
    rw [List.nodup_cons] at nd
    simp only [List.map_cons, List.sum_cons]
    by_cases e : a = x
    · subst e
      have h0 : ∀ y ∈ l, (if a = y then f y else 0) = (0 : Int) := fun y hy => if_neg fun z => nd.1 (by rw [z]; exact hy)
      rw [if_pos rfl, sum_congr h0, sum_zero, Int.add_zero]
    · rw [if_neg e, sum_at f a nd.2 ((List.mem_cons.mp h).resolve_left e), Int.zero_add]
section
variable {α ε : Type} [DecidableEq α] (l : List α) (pl : α → ε → α) (mul : ε → ε → ε) (ms : List (ε × Int))
def stp (x y : α) : Int := (ms.map fun e => if pl x e.1 = y then e.2 else 0).sum
/-- one factor from the right -/
def fac (c d : Int) (N : α → α → Int) (x y : α) : Int := (l.map fun z => N x z * (c * stp pl ms z y - if z = y then d else 0)).sum
def tau (N : α → α → Int) (u : ε) : Int := (l.map fun x => (l.map fun z => if pl z u = x then N x z else 0).sum).sum
theorem fac_eq {c d : Int} {N : α → α → Int} {x y : α} (nd : l.Nodup) (hy : y ∈ l) : fac l pl ms c d N x y = c * (ms.map fun e => e.2 * (l.map fun z => if pl z e.1 = y then N x z else 0).sum).sum - d * N x y := by
  have h1 : ∀ z ∈ l, N x z * (c * stp pl ms z y - if z = y then d else 0) = c * (ms.map fun e => e.2 * (if pl z e.1 = y then N x z else 0)).sum + (if y = z then -(d * N x z) else 0) := fun z _ => by
    have h2 : N x z * stp pl ms z y = (ms.map fun e => e.2 * (if pl z e.1 = y then N x z else 0)).sum := by
      unfold stp
      rw [← sum_mul]
      refine sum_congr fun e _ => ?_
      split
      · exact Int.mul_comm _ _
      · simp
    rw [Int.mul_sub, Int.mul_left_comm, h2]
    by_cases e : z = y
    · rw [if_pos e, if_pos e.symm, Int.mul_comm (N x z) d]
      omega
    · rw [if_neg e, if_neg fun z => e z.symm]
      omega
  unfold fac
  rw [sum_congr h1, sum_add, sum_mul, sum_at (fun z => -(d * N x z)) y nd hy, sum_swap]
  rw [sum_congr (l := ms) fun e _ => sum_mul e.2 (fun z => if pl z e.1 = y then N x z else 0) l]
  omega
theorem tau_step {c d : Int} {N : α → α → Int} {u : ε} (nd : l.Nodup) (hc : ∀ z ∈ l, ∀ e ∈ ms, pl z e.1 ∈ l) (hm : ∀ z ∈ l, ∀ e ∈ ms, pl (pl z e.1) u = pl z (mul e.1 u)) :
    tau l pl (fac l pl ms c d N) u = c * (ms.map fun e => e.2 * tau l pl N (mul e.1 u)).sum - d * tau l pl N u := by
  have h1 : ∀ x ∈ l, (l.map fun y => if pl y u = x then fac l pl ms c d N x y else 0).sum = c * (ms.map fun e => e.2 * (l.map fun z => if pl z (mul e.1 u) = x then N x z else 0).sum).sum + -d * (l.map fun y => if pl y u = x then N x y else 0).sum := fun x _ => by
    have h2 : ∀ y ∈ l, (if pl y u = x then fac l pl ms c d N x y else 0) = c * (ms.map fun e => e.2 * (l.map fun z => if pl z e.1 = y then (if pl y u = x then N x z else 0) else 0).sum).sum + -d * (if pl y u = x then N x y else 0) := fun y hy => by
      by_cases e : pl y u = x
      · simp only [if_pos e]
        rw [fac_eq l pl ms nd hy, Int.neg_mul]
        omega
      · simp only [if_neg e, ite_self, Int.mul_zero, Int.add_zero]
        rw [sum_congr (g := fun _ => 0) fun e _ => by rw [sum_zero, Int.mul_zero], sum_zero, Int.mul_zero]
    rw [sum_congr h2, sum_add, sum_mul, sum_mul, sum_swap]
    congr 2
    refine congrArg _ (List.map_congr_left fun e he => ?_)
    rw [sum_mul, sum_swap]
    congr 1
    refine sum_congr fun z hz => ?_
    rw [sum_at (fun y => if pl y u = x then N x z else 0) (pl z e.1) nd (hc z hz e he), hm z hz e he]
  unfold tau
  rw [sum_congr h1, sum_add, sum_mul, sum_mul, sum_swap]
  rw [sum_congr (l := ms) fun e _ => sum_mul e.2 (fun x => (l.map fun z => if pl z (mul e.1 u) = x then N x z else 0).sum) l]
  rw [Int.neg_mul]
  omega
variable {χ : Type} (fx : List (χ × Int)) (le : ε → χ → Bool)
/-- the weight within a flat -/
def wt (X : χ) : Int := (ms.map fun e => if le e.1 X = true then e.2 else 0).sum
def form (R : χ → Int) (u : ε) : Int := (fx.map fun X => if le u X.1 = true then X.2 * R X.1 else 0).sum
theorem form_step {c d : Int} {R : χ → Int} {u : ε} (hm : ∀ e ∈ ms, ∀ X ∈ fx, le (mul e.1 u) X.1 = (le e.1 X.1 && le u X.1)) :
    c * (ms.map fun e => e.2 * form fx le R (mul e.1 u)).sum - d * form fx le R u = form fx le (fun X => R X * (c * wt ms le X - d)) u := by
  have h1 : (ms.map fun e => e.2 * form fx le R (mul e.1 u)).sum = (fx.map fun X => if le u X.1 = true then X.2 * R X.1 * wt ms le X.1 else 0).sum := by
    unfold form
    rw [sum_congr (l := ms) fun e _ => (sum_mul e.2 (fun X => if le (mul e.1 u) X.1 = true then X.2 * R X.1 else 0) fx).symm, sum_swap]
    refine sum_congr fun X hX => ?_
    by_cases hu : le u X.1 = true
    · rw [if_pos hu]
      unfold wt
      rw [← sum_mul]
      refine sum_congr fun e he => ?_
      rw [hm e he X hX, hu, Bool.and_true]
      split
      · exact Int.mul_comm _ _
      · simp
    · rw [if_neg hu, sum_congr (g := fun _ => 0) fun e he => by rw [hm e he X hX, if_neg (by simp [hu]), Int.mul_zero], sum_zero]
  rw [h1]
  unfold form
  rw [← sum_mul, ← sum_mul]
  have h2 : ∀ X ∈ fx, (if le u X.1 = true then X.2 * (R X.1 * (c * wt ms le X.1 - d)) else 0) = c * (if le u X.1 = true then X.2 * R X.1 * wt ms le X.1 else 0) + -1 * (d * (if le u X.1 = true then X.2 * R X.1 else 0)) := fun X _ => by
    split
    · rw [Int.mul_sub, Int.mul_sub, Int.neg_mul, Int.one_mul, Int.sub_eq_add_neg]
      congr 1
      · ac_rfl
      · congr 1
        ac_rfl
    · simp
  rw [sum_congr h2, sum_add, sum_mul (-1)]
  omega
/-- the products of factors -/
def prods (facs : List (Int × Int)) : α → α → Int := facs.foldl (fun N f => fac l pl ms f.1 f.2 N) fun x y => if x = y then 1 else 0
/-- the trace of a product of factors -/
def rval (facs : List (Int × Int)) (X : χ) : Int := facs.foldl (fun p f => p * (f.1 * wt ms le X - f.2)) 1
theorem tau_fold (E : ε → Prop) (nd : l.Nodup) (hc : ∀ z ∈ l, ∀ e ∈ ms, pl z e.1 ∈ l) (hE : ∀ e ∈ ms, ∀ u, E u → E (mul e.1 u)) (hm : ∀ u, E u → ∀ z ∈ l, ∀ e ∈ ms, pl (pl z e.1) u = pl z (mul e.1 u)) (hl : ∀ u, E u → ∀ e ∈ ms, ∀ X ∈ fx, le (mul e.1 u) X.1 = (le e.1 X.1 && le u X.1)) :
    ∀ (facs : List (Int × Int)) (N : α → α → Int) (R : χ → Int), (∀ u, E u → tau l pl N u = form fx le R u) → ∀ u, E u → tau l pl (facs.foldl (fun N f => fac l pl ms f.1 f.2 N) N) u = form fx le (fun X => facs.foldl (fun p f => p * (f.1 * wt ms le X - f.2)) (R X)) u
  | [], N, R, h => h
  | f :: facs, N, R, h => by
    refine tau_fold E nd hc hE hm hl facs (fac l pl ms f.1 f.2 N) (fun X => R X * (f.1 * wt ms le X - f.2)) fun u hu => ?_
    rw [tau_step l pl mul ms nd hc (hm u hu), sum_congr (g := fun e => e.2 * form fx le R (mul e.1 u)) fun e he => by rw [h _ (hE e he u hu)], h u hu]
    exact form_step mul ms fx le (hl u hu)
theorem tau_prods (E : ε → Prop) (nd : l.Nodup) (hc : ∀ z ∈ l, ∀ e ∈ ms, pl z e.1 ∈ l) (hE : ∀ e ∈ ms, ∀ u, E u → E (mul e.1 u)) (hm : ∀ u, E u → ∀ z ∈ l, ∀ e ∈ ms, pl (pl z e.1) u = pl z (mul e.1 u)) (hl : ∀ u, E u → ∀ e ∈ ms, ∀ X ∈ fx, le (mul e.1 u) X.1 = (le e.1 X.1 && le u X.1)) (hfix : ∀ u, E u → ((l.filter fun z => decide (pl z u = z)).length : Int) = ((fx.filter fun X => le u X.1).map (·.2)).sum) (hp : ∀ u, E u → ∀ z ∈ l, pl z u ∈ l) (facs : List (Int × Int)) {u : ε} (hu : E u) :
    tau l pl (prods l pl ms facs) u = form fx le (rval ms le facs) u := by
  refine tau_fold l pl mul ms fx le E nd hc hE hm hl facs _ (fun _ => 1) (fun u hu => ?_) u hu
  have h1 : tau l pl (fun x y => if x = y then 1 else 0) u = (l.map fun z => if decide (pl z u = z) = true then (1 : Int) else 0).sum := by
    unfold tau
    rw [sum_swap]
    refine sum_congr fun z hz => ?_
    rw [sum_at (fun x => if x = z then (1 : Int) else 0) (pl z u) nd (hp u hu z hz)]
    by_cases e : pl z u = z
    · rw [if_pos e, if_pos (by simpa using e)]
    · rw [if_neg e, if_neg (by simpa using e)]
  have h2 : ∀ {β : Type} (p : β → Bool) (k : List β), (k.map fun z => if p z = true then (1 : Int) else 0).sum = ((k.filter p).length : Int) := fun p k => by
    induction k with
    | nil => rfl
    | cons x k ih =>
      rw [List.map_cons, List.sum_cons, ih, List.filter_cons]
      cases p x <;> simp
      omega
  have h3 : ∀ k : List (χ × Int), ((k.filter fun X => le u X.1).map (·.2)).sum = (k.map fun X => if le u X.1 = true then X.2 * 1 else 0).sum := fun k => by
    induction k with
    | nil => rfl
    | cons x k ih =>
      rw [List.map_cons, List.sum_cons, ← ih, List.filter_cons]
      cases le u x.1 <;> simp
  rw [h1, h2 (fun z => decide (pl z u = z)), hfix u hu, h3]
  rfl
end
end K4
end
section
set_option linter.all false
set_option autoImplicit false
/-! the product of all factors is nought -/
namespace K4
section
variable {α ε : Type} [DecidableEq α] (l : List α) (pl : α → ε → α) (mul : ε → ε → ε) (ms : List (ε × Int))
def app (N : α → α → Int) (h : α → Int) (x : α) : Int := (l.map fun z => N x z * h z).sum
def opF (c d : Int) (h : α → Int) (x : α) : Int := c * (ms.map fun e => e.2 * h (pl x e.1)).sum - d * h x
theorem app_fac {c d : Int} {N : α → α → Int} {h : α → Int} {x : α} (nd : l.Nodup) (hc : ∀ z ∈ l, ∀ e ∈ ms, pl z e.1 ∈ l) : app l (fac l pl ms c d N) h x = app l N (opF pl ms c d h) x := by
  have h1 : ∀ y ∈ l, fac l pl ms c d N x y * h y = (l.map fun z => N x z * (c * (ms.map fun e => if pl z e.1 = y then e.2 * h y else 0).sum + -(if z = y then d * h y else 0))).sum := fun y _ => by
    unfold fac
    rw [Int.mul_comm, ← sum_mul]
    refine sum_congr fun z _ => ?_
    rw [Int.mul_left_comm]
    congr 1
    rw [Int.mul_sub, Int.sub_eq_add_neg]
    congr 1
    · rw [Int.mul_left_comm]
      congr 1
      unfold stp
      rw [← sum_mul]
      refine sum_congr fun e _ => ?_
      split
      · exact Int.mul_comm _ _
      · simp
    · split
      · rw [Int.mul_comm]
      · simp
  unfold app
  rw [sum_congr h1, sum_swap]
  refine sum_congr fun z hz => ?_
  rw [sum_mul]
  congr 1
  have h2 : ∀ y : α, c * (ms.map fun e => if pl z e.1 = y then e.2 * h y else 0).sum + -(if z = y then d * h y else 0) = c * (ms.map fun e => if pl z e.1 = y then e.2 * h y else 0).sum + (if z = y then -(d * h y) else 0) := fun y => by
    split <;> simp
  rw [sum_congr fun y _ => h2 y, sum_add, sum_mul, sum_swap, sum_at (fun y => -(d * h y)) z nd hz]
  unfold opF
  rw [Int.sub_eq_add_neg]
  congr 2
  refine sum_congr fun e he => ?_
  exact sum_at (fun y => e.2 * h y) (pl z e.1) nd (hc z hz e he)
theorem app_fold (nd : l.Nodup) (hc : ∀ z ∈ l, ∀ e ∈ ms, pl z e.1 ∈ l) {x : α} : ∀ (facs : List (Int × Int)) (N : α → α → Int) (h : α → Int), app l (facs.foldl (fun N f => fac l pl ms f.1 f.2 N) N) h x = app l N (facs.foldr (fun f h => opF pl ms f.1 f.2 h) h) x
  | [], N, h => rfl
  | f :: facs, N, h => by
    show app l (facs.foldl _ (fac l pl ms f.1 f.2 N)) h x = _
    rw [app_fold nd hc facs, app_fac l pl ms nd hc] <;> rfl
variable (le : ε → ε → Bool)
/-- the weight within a word's flat -/
def wu (u : ε) : Int := (ms.map fun e => if le e.1 u = true then e.2 else 0).sum
/-- h is a sum of g after words whose root is among the factors -/
def Spn (E : ε → Prop) (g : α → Int) (rest : List (Int × Int)) (h : α → Int) : Prop := ∃ k : List (Int × ε), (∀ a ∈ k, E a.2 ∧ ∃ f ∈ rest, f.1 * wu ms le a.2 = f.2) ∧ ∀ x ∈ l, h x = (k.map fun a => a.1 * g (pl x a.2)).sum
theorem Spn.add {E : ε → Prop} {g : α → Int} {rest : List (Int × Int)} {h h' : α → Int} (a : Spn l pl ms le E g rest h) (b : Spn l pl ms le E g rest h') : Spn l pl ms le E g rest fun x => h x + h' x := by
  obtain ⟨k, k1, k2⟩ := a
  obtain ⟨j, j1, j2⟩ := b
  refine ⟨k ++ j, fun a ha => (List.mem_append.mp ha).elim (k1 a) (j1 a), fun x hx => ?_⟩
  show h x + h' x = _
  rw [k2 x hx, j2 x hx, List.map_append, List.sum_append]
theorem Spn.nil {E : ε → Prop} {g : α → Int} {rest : List (Int × Int)} : Spn l pl ms le E g rest fun _ => 0 := ⟨[], fun a ha => (nomatch ha), fun x hx => rfl⟩
theorem Spn.one {E : ε → Prop} {g : α → Int} {rest : List (Int × Int)} {a : Int} {u : ε} (hu : E u) (hr : ∃ f ∈ rest, f.1 * wu ms le u = f.2) : Spn l pl ms le E g rest fun x => a * g (pl x u) :=
  ⟨[(a, u)], fun b hb => by rw [List.mem_singleton.mp hb]; exact ⟨hu, hr⟩, fun x hx => by simp⟩
theorem Spn.sum {E : ε → Prop} {g : α → Int} {rest : List (Int × Int)} {β : Type} (F : β → α → Int) : ∀ k : List β, (∀ b ∈ k, Spn l pl ms le E g rest (F b)) → Spn l pl ms le E g rest fun x => (k.map fun b => F b x).sum
  | [], _ => Spn.nil l pl ms le
  | b :: k, h => by
    have := (h b List.mem_cons_self).add l pl ms le (Spn.sum F k fun c hc => h c (List.mem_cons_of_mem _ hc))
    simpa only [List.map_cons, List.sum_cons] using this
theorem Spn.eq {E : ε → Prop} {g : α → Int} {rest : List (Int × Int)} {h h' : α → Int} (a : Spn l pl ms le E g rest h) (e : ∀ x ∈ l, h' x = h x) : Spn l pl ms le E g rest h' := by
  obtain ⟨k, k1, k2⟩ := a
  exact ⟨k, k1, fun x hx => by rw [e x hx, k2 x hx]⟩
/-- one factor drives the words up -/
theorem Spn.step {E : ε → Prop} {g : α → Int} {rest : List (Int × Int)} {f : Int × Int} {h : α → Int} (hc : ∀ z ∈ l, ∀ e ∈ ms, pl z e.1 ∈ l) (hE : ∀ e ∈ ms, ∀ u, E u → E (mul e.1 u)) (hm : ∀ u, E u → ∀ z ∈ l, ∀ e ∈ ms, pl (pl z e.1) u = pl z (mul e.1 u)) (ha : ∀ u, E u → ∀ e ∈ ms, le e.1 u = true → mul e.1 u = u)
    (hup : ∀ u, E u → (∃ f' ∈ rest ++ [f], f'.1 * wu ms le u = f'.2) → ∀ e ∈ ms, le e.1 u = false → ∃ f' ∈ rest, f'.1 * wu ms le (mul e.1 u) = f'.2) (a : Spn l pl ms le E g (rest ++ [f]) h) : Spn l pl ms le E g rest (opF pl ms f.1 f.2 h) := by
  obtain ⟨k, k1, k2⟩ := a
  have h1 : ∀ x ∈ l, opF pl ms f.1 f.2 h x = (k.map fun a => a.1 * (f.1 * (ms.map fun e => e.2 * g (pl x (mul e.1 a.2))).sum - f.2 * g (pl x a.2))).sum := fun x hx => by
    unfold opF
    rw [k2 x hx, sum_congr (l := ms) (g := fun e => (k.map fun a => e.2 * (a.1 * g (pl x (mul e.1 a.2)))).sum) fun e he => by
      rw [k2 _ (hc x hx e he), ← sum_mul]
      exact sum_congr fun a ha' => by rw [hm a.2 (k1 a ha').1 x hx e he], sum_swap, ← sum_mul, ← sum_mul]
    have h3 : ∀ a ∈ k, a.1 * (f.1 * (ms.map fun e => e.2 * g (pl x (mul e.1 a.2))).sum - f.2 * g (pl x a.2)) = f.1 * (ms.map fun e => e.2 * (a.1 * g (pl x (mul e.1 a.2)))).sum + -1 * (f.2 * (a.1 * g (pl x a.2))) := fun a _ => by
      rw [sum_congr (l := ms) (g := fun e => a.1 * (e.2 * g (pl x (mul e.1 a.2)))) fun e _ => Int.mul_left_comm _ _ _, sum_mul, Int.mul_sub, Int.sub_eq_add_neg, Int.neg_mul, Int.one_mul]
      congr 1
      · exact Int.mul_left_comm _ _ _
      · rw [Int.mul_left_comm]
    rw [sum_congr h3, sum_add, sum_mul (-1)]
    omega
  refine (Spn.sum l pl ms le (fun (a : Int × ε) x => a.1 * (f.1 * (ms.map fun e => e.2 * g (pl x (mul e.1 a.2))).sum - f.2 * g (pl x a.2))) k fun a hk => ?_).eq l pl ms le h1
  obtain ⟨hu, hr⟩ := k1 a hk
  have h4 : ∀ x ∈ l, a.1 * (f.1 * (ms.map fun e => e.2 * g (pl x (mul e.1 a.2))).sum - f.2 * g (pl x a.2)) = (a.1 * (f.1 * wu ms le a.2 - f.2)) * g (pl x a.2) + (ms.map fun e => if le e.1 a.2 = true then 0 else (a.1 * f.1 * e.2) * g (pl x (mul e.1 a.2))).sum := fun x _ => by
    have h5 : (ms.map fun e => e.2 * g (pl x (mul e.1 a.2))).sum = wu ms le a.2 * g (pl x a.2) + (ms.map fun e => if le e.1 a.2 = true then 0 else e.2 * g (pl x (mul e.1 a.2))).sum := by
      unfold wu
      rw [Int.mul_comm, ← sum_mul, ← sum_add]
      refine sum_congr fun e he => ?_
      by_cases hle : le e.1 a.2 = true
      · rw [if_pos hle, if_pos hle, ha a.2 hu e he hle, Int.add_zero]
        exact Int.mul_comm _ _
      · rw [if_neg hle, if_neg hle, Int.mul_zero, Int.zero_add]
    have h6 : (ms.map fun e => if le e.1 a.2 = true then 0 else (a.1 * f.1 * e.2) * g (pl x (mul e.1 a.2))).sum = a.1 * (f.1 * (ms.map fun e => if le e.1 a.2 = true then 0 else e.2 * g (pl x (mul e.1 a.2))).sum) := by
      rw [← sum_mul, ← sum_mul]
      refine sum_congr fun e _ => ?_
      split
      · simp
      · ac_rfl
    rw [h5, h6, Int.mul_add, Int.mul_sub, Int.mul_sub, Int.sub_mul, Int.mul_add]
    have e1 : a.1 * (f.1 * (wu ms le a.2 * g (pl x a.2))) = a.1 * (f.1 * wu ms le a.2) * g (pl x a.2) := by ac_rfl
    have e2 : a.1 * (f.2 * g (pl x a.2)) = a.1 * f.2 * g (pl x a.2) := by ac_rfl
    omega
  refine Spn.eq l pl ms le (Spn.add l pl ms le ?_ (Spn.sum l pl ms le (fun e x => if le e.1 a.2 = true then 0 else (a.1 * f.1 * e.2) * g (pl x (mul e.1 a.2))) ms fun e he => ?_)) h4
  · obtain ⟨f', hf, hw⟩ := hr
    rcases List.mem_append.mp hf with hf | hf
    · exact Spn.one l pl ms le hu ⟨f', hf, hw⟩
    · rw [List.mem_singleton.mp hf] at hw
      refine (Spn.nil l pl ms le).eq l pl ms le fun x _ => ?_
      rw [hw, Int.sub_self, Int.mul_zero, Int.zero_mul]
  · by_cases hle : le e.1 a.2 = true
    · refine (Spn.nil l pl ms le).eq l pl ms le fun x _ => ?_
      rw [if_pos hle]
    · simp only [if_neg hle]
      exact Spn.one l pl ms le (hE e he a.2 hu) (hup a.2 hu hr e he (by simpa using hle))
theorem Spn.all {E : ε → Prop} {g : α → Int} (hc : ∀ z ∈ l, ∀ e ∈ ms, pl z e.1 ∈ l) (hE : ∀ e ∈ ms, ∀ u, E u → E (mul e.1 u)) (hm : ∀ u, E u → ∀ z ∈ l, ∀ e ∈ ms, pl (pl z e.1) u = pl z (mul e.1 u)) (ha : ∀ u, E u → ∀ e ∈ ms, le e.1 u = true → mul e.1 u = u) {whole : List (Int × Int)}
    (hup : ∀ rest f suf, whole = rest ++ f :: suf → ∀ u, E u → (∃ f' ∈ rest ++ [f], f'.1 * wu ms le u = f'.2) → ∀ e ∈ ms, le e.1 u = false → ∃ f' ∈ rest, f'.1 * wu ms le (mul e.1 u) = f'.2) {h : α → Int} (h0 : Spn l pl ms le E g whole h) : ∀ (suf rest : List (Int × Int)), whole = rest ++ suf → Spn l pl ms le E g rest (suf.foldr (fun f h => opF pl ms f.1 f.2 h) h)
  | [], rest, e => by
    rw [List.append_nil] at e
    rw [← e]
    exact h0
  | f :: suf, rest, e => by
    refine Spn.step l pl mul ms le hc hE hm ha (hup rest f suf e) (Spn.all hc hE hm ha hup h0 suf (rest ++ [f]) ?_)
    rw [e, List.append_assoc] <;> rfl
/-- the product of all factors is nought -/
theorem prods_zero {E : ε → Prop} {one : ε} (nd : l.Nodup) (h1 : E one) (hone : ∀ x ∈ l, pl x one = x) (hc : ∀ z ∈ l, ∀ e ∈ ms, pl z e.1 ∈ l) (hE : ∀ e ∈ ms, ∀ u, E u → E (mul e.1 u)) (hm : ∀ u, E u → ∀ z ∈ l, ∀ e ∈ ms, pl (pl z e.1) u = pl z (mul e.1 u)) (ha : ∀ u, E u → ∀ e ∈ ms, le e.1 u = true → mul e.1 u = u) {whole : List (Int × Int)}
    (hup : ∀ rest f suf, whole = rest ++ f :: suf → ∀ u, E u → (∃ f' ∈ rest ++ [f], f'.1 * wu ms le u = f'.2) → ∀ e ∈ ms, le e.1 u = false → ∃ f' ∈ rest, f'.1 * wu ms le (mul e.1 u) = f'.2) (hr : ∃ f ∈ whole, f.1 * wu ms le one = f.2) {x y : α} (hx : x ∈ l) (hy : y ∈ l) : prods l pl ms whole x y = 0 := by
  have h2 : app l (prods l pl ms whole) (fun z => if y = z then 1 else 0) x = prods l pl ms whole x y := by
    unfold app
    have h3 : ∀ z ∈ l, prods l pl ms whole x z * (if y = z then 1 else 0) = if y = z then prods l pl ms whole x z else 0 := fun z _ => by split <;> simp
    rw [sum_congr h3]
    exact sum_at (fun z => prods l pl ms whole x z) y nd hy
  rw [← h2]
  unfold prods
  rw [app_fold l pl ms nd hc]
  obtain ⟨k, k1, k2⟩ := Spn.all l pl mul ms le (g := fun z => if y = z then (1 : Int) else 0) hc hE hm ha hup (h := fun z => if y = z then 1 else 0) ⟨[(1, one)], fun a ha' => by rw [List.mem_singleton.mp ha']; exact ⟨h1, hr⟩, fun z hz => by simp [hone z hz]⟩ whole [] rfl
  have k0 : k = [] := by
    cases k with
    | nil => rfl
    | cons a k =>
      obtain ⟨_, f, hf, _⟩ := k1 a List.mem_cons_self
      cases hf
  subst k0
  unfold app
  rw [sum_congr (g := fun _ => 0) fun z hz => by rw [k2 z hz] <;> simp, sum_zero]
end
end K4
end
section
set_option linter.all false
set_option autoImplicit false
/-! fractions -/
namespace K4
/-- in lowest terms -/
def Red (p : Int × Int) : Prop := 0 < p.2 ∧ Int.gcd p.1 p.2 = 1
/-- p is a / b -/
def Is (p : Int × Int) (a b : Int) : Prop := p.1 * b = a * p.2
theorem mFr_mul {a b : Int} (h : 0 < b) : a = (mFr a b).1 * mGcd a b ∧ b = (mFr a b).2 * mGcd a b := by
  have h1 : mGcd a b ∣ a := by unfold mGcd; exact Int.gcd_dvd_left ..
  have h2 : mGcd a b ∣ b := by unfold mGcd; exact Int.gcd_dvd_right ..
  exact ⟨(Int.ediv_mul_cancel h1).symm, (Int.ediv_mul_cancel h2).symm⟩
theorem mFr_is {a b : Int} (h : 0 < b) : Is (mFr a b) a b := by
  obtain ⟨h1, h2⟩ := mFr_mul (a := a) h
  unfold Is
  grind
theorem mFr_red {a b : Int} (h : 0 < b) : Red (mFr a b) := by
  refine ⟨mFr_den_pos h, ?_⟩
  unfold mFr mGcd
  exact Int.gcd_ediv_gcd_ediv_gcd (Nat.pos_of_ne_zero fun e => by
    rw [Int.gcd_eq_zero_iff] at e
    omega)
theorem is_dvd {p : Int × Int} {a b : Int} (hp : Red p) (h : Is p a b) : p.2 ∣ b := by
  have h1 : p.2 ∣ p.1 * b := ⟨a, by unfold Is at h; rw [h, Int.mul_comm]⟩
  rw [← Int.natAbs_dvd_natAbs, Int.natAbs_mul] at h1
  rw [← Int.natAbs_dvd_natAbs]
  refine Nat.Coprime.dvd_of_dvd_mul_left ?_ h1
  have h2 : Nat.gcd p.1.natAbs p.2.natAbs = 1 := hp.2
  rw [Nat.gcd_comm] at h2
  exact h2
theorem red_uniq {p q : Int × Int} (hp : Red p) (hq : Red q) (h : p.1 * q.2 = q.1 * p.2) : p = q := by
  have h1 : p.2 ∣ q.2 := is_dvd hp (show Is p q.1 q.2 from h)
  have h2 : q.2 ∣ p.2 := is_dvd hq (show Is q p.1 p.2 from h.symm)
  have h3 : p.2 = q.2 := Int.dvd_antisymm (Int.le_of_lt hp.1) (Int.le_of_lt hq.1) h1 h2
  have h4 : p.1 = q.1 := by
    rw [h3] at h
    exact Int.eq_of_mul_eq_mul_right (by have := hq.1; omega) h
  exact Prod.ext h4 h3
theorem is_uniq {p q : Int × Int} {a b : Int} (hp : Red p) (hq : Red q) (hb : b ≠ 0) (h1 : Is p a b) (h2 : Is q a b) : p = q := by
  refine red_uniq hp hq (Int.eq_of_mul_eq_mul_right hb ?_)
  unfold Is at h1 h2
  grind
theorem is_mFr {p : Int × Int} {a b : Int} (hp : Red p) (hb : 0 < b) (h : Is p a b) : p = mFr a b := is_uniq hp (mFr_red hb) (by omega) h (mFr_is hb)
theorem Red.le {p : Int × Int} {a b : Int} (hp : Red p) (hb : 0 < b) (h : Is p a b) : p.2 ≤ b := Int.le_of_dvd hb (is_dvd hp h)
theorem plus_red {p q : Int × Int} (hp : 0 < p.2) (hq : 0 < q.2) : Red (mPlus p q) := mFr_red (Int.mul_pos hp hq)
theorem times_red {p q : Int × Int} (hp : 0 < p.2) (hq : 0 < q.2) : Red (mTimes p q) := mFr_red (Int.mul_pos hp hq)
theorem Is.plus {p q : Int × Int} {a c b : Int} (hp : 0 < p.2) (hq : 0 < q.2) (h1 : Is p a b) (h2 : Is q c b) : Is (mPlus p q) (a + c) b := by
  have h3 := mFr_is (a := p.1 * q.2 + q.1 * p.2) (Int.mul_pos hp hq)
  have h4 : p.2 * q.2 ≠ 0 := Int.ne_of_gt (Int.mul_pos hp hq)
  unfold Is at h1 h2 h3 ⊢
  refine Int.eq_of_mul_eq_mul_right h4 ?_
  show (mFr (p.1 * q.2 + q.1 * p.2) (p.2 * q.2)).1 * b * (p.2 * q.2) = (a + c) * (mFr (p.1 * q.2 + q.1 * p.2) (p.2 * q.2)).2 * (p.2 * q.2)
  grind
theorem Is.times {p q : Int × Int} {a b c d : Int} (hp : 0 < p.2) (hq : 0 < q.2) (h1 : Is p a b) (h2 : Is q c d) : Is (mTimes p q) (a * c) (b * d) := by
  have h3 := mFr_is (a := p.1 * q.1) (Int.mul_pos hp hq)
  have h4 : p.2 * q.2 ≠ 0 := Int.ne_of_gt (Int.mul_pos hp hq)
  unfold Is at h1 h2 h3 ⊢
  refine Int.eq_of_mul_eq_mul_right h4 ?_
  show (mFr (p.1 * q.1) (p.2 * q.2)).1 * (b * d) * (p.2 * q.2) = a * c * (mFr (p.1 * q.1) (p.2 * q.2)).2 * (p.2 * q.2)
  grind
theorem is_unit {p : Int × Int} {a b : Int} (hb : 0 < b) (hp : 0 < p.2) (h : Is p a b) (n : Int) : Is (n, 1) n 1 := by unfold Is; rfl
/-- a power -/
theorem raised_is {p : Int × Int} {a b : Int} (hp : 0 < p.2) (h : Is p a b) : ∀ n : Nat, Is (mRaisedN p n) (a ^ n) (b ^ n) ∧ Red (mRaisedN p n)
  | 0 => ⟨by unfold Is mRaisedN; simp, by unfold Red mRaisedN; simp⟩
  | n + 1 => by
    obtain ⟨h1, h2⟩ := raised_is hp h n
    rw [Int.pow_succ, Int.pow_succ]
    exact ⟨Is.times h2.1 hp h1 h, times_red h2.1 hp⟩
/-- times the n-th power -/
def mPart (t : Int) (v : Int × Int) : Nat → Int × Int
  | 0 => (t, 1)
  | n + 1 => mTimes (mPart t v n) v
theorem part_is {v : Int × Int} {a b t : Int} (hv : 0 < v.2) (h : Is v a b) : ∀ n : Nat, Is (mPart t v n) (t * a ^ n) (b ^ n) ∧ Red (mPart t v n)
  | 0 => ⟨by unfold Is mPart; simp, by unfold Red mPart; simp⟩
  | n + 1 => by
    obtain ⟨h1, h2⟩ := part_is (t := t) hv h n
    rw [Int.pow_succ, Int.pow_succ, ← Int.mul_assoc]
    exact ⟨Is.times h2.1 hv h1 h, times_red h2.1 hv⟩
instance decRed (p : Int × Int) : Decidable (Red p) := by unfold Red; infer_instance
/-- a sum of fractions with one denominator -/
theorem fold_is {β : Type} (f : β → Int × Int) (a : β → Int) (b : Int) : ∀ (l : List β) (p : Int × Int) (z : Int), Red p → Is p z b → (∀ x ∈ l, Red (f x) ∧ Is (f x) (a x) b) → Is (l.foldl (fun p x => mPlus p (f x)) p) (z + (l.map a).sum) b ∧ Red (l.foldl (fun p x => mPlus p (f x)) p)
  | [], p, z, hp, h, _ => ⟨by simpa using h, hp⟩
  | x :: l, p, z, hp, h, hl => by
    obtain ⟨h1, h2⟩ := hl x List.mem_cons_self
    rw [List.foldl_cons, List.map_cons, List.sum_cons, ← Int.add_assoc]
    exact fold_is f a b l _ _ (plus_red hp.1 h1.1) (Is.plus hp.1 h1.1 h h2) fun y hy => hl y (List.mem_cons_of_mem _ hy)
end K4
end
section
set_option linter.all false
set_option autoImplicit false
/-! dicts that are added to -/
namespace K4
section
variable {κ : Type} [DecidableEq κ]
def addD (m : List (κ × Int)) (k : κ) (t : Int) : List (κ × Int) := putD m k ((getD' m k).getD 0 + t)
theorem any_mem {β : Type} {m : List (κ × β)} {k : κ} : (m.any fun e => decide (e.1 = k)) = true ↔ k ∈ m.map (·.1) := by
  rw [List.any_eq_true, List.mem_map]
  exact ⟨fun ⟨e, h1, h2⟩ => ⟨e, h1, of_decide_eq_true h2⟩, fun ⟨e, h1, h2⟩ => ⟨e, h1, decide_eq_true h2⟩⟩
theorem get_cons {β : Type} {e : κ × β} {m : List (κ × β)} {k : κ} : getD' (e :: m) k = if e.1 = k then some e.2 else getD' m k := by
  unfold getD'
  rw [List.find?_cons]
  by_cases h : e.1 = k
  · rw [decide_eq_true h, if_pos h] <;> rfl
  · rw [decide_eq_false h, if_neg h]
theorem get_none {β : Type} {k : κ} : ∀ {m : List (κ × β)}, k ∉ m.map (·.1) → getD' m k = none
  | [], _ => rfl
  | e :: m, h => by
    rw [List.map_cons, List.mem_cons, not_or] at h
    rw [get_cons, if_neg fun z => h.1 z.symm]
    exact get_none h.2
theorem map_same {β : Type} {k : κ} {v : β} : ∀ {m : List (κ × β)}, k ∉ m.map (·.1) → m.map (fun e => if e.1 = k then (e.1, v) else e) = m
  | [], _ => rfl
  | e :: m, h => by
    rw [List.map_cons, List.mem_cons, not_or] at h
    rw [List.map_cons, if_neg fun z => h.1 z.symm, map_same h.2]
theorem put_sum (g : κ → Int) (k : κ) (v : Int) : ∀ {m : List (κ × Int)}, (m.map (·.1)).Nodup → k ∈ m.map (·.1) → ((m.map fun e => if e.1 = k then (e.1, v) else e).map fun e => e.2 * g e.1).sum = (m.map fun e => e.2 * g e.1).sum + (v - (getD' m k).getD 0) * g k
  | [], _, h => nomatch h
  | e :: m, nd, h => by
    rw [List.map_cons, List.nodup_cons] at nd
    rw [get_cons]
    by_cases hk : e.1 = k
    · subst hk
      rw [List.map_cons, map_same nd.1, if_pos rfl, if_pos rfl]
      simp only [List.map_cons, List.sum_cons, Option.getD_some, Int.sub_mul]
      omega
    · rw [List.map_cons, if_neg hk, if_neg hk]
      simp only [List.map_cons, List.sum_cons]
      rw [put_sum g k v nd.2 ((List.mem_cons.mp h).resolve_left fun z => hk z.symm)]
      omega
theorem addD_sum (g : κ → Int) {m : List (κ × Int)} {k : κ} {t : Int} (nd : (m.map (·.1)).Nodup) : ((addD m k t).map fun e => e.2 * g e.1).sum = (m.map fun e => e.2 * g e.1).sum + t * g k := by
  unfold addD putD
  by_cases h : k ∈ m.map (·.1)
  · rw [if_pos (any_mem.mpr h), put_sum g k _ nd h]
    congr 2
    omega
  · rw [if_neg fun z => h (any_mem.mp z), get_none h]
    simp
theorem get_mem {β : Type} {k : κ} {v : β} : ∀ {m : List (κ × β)}, getD' m k = some v → (k, v) ∈ m
  | [], h => nomatch h
  | e :: m, h => by
    rw [get_cons] at h
    by_cases hk : e.1 = k
    · rw [if_pos hk] at h
      cases h
      rw [← hk]
      exact List.mem_cons_self
    · rw [if_neg hk] at h
      exact List.mem_cons_of_mem _ (get_mem h)
theorem addD_pos {m : List (κ × Int)} {k : κ} {t : Int} (h : ∀ e ∈ m, 0 < e.2) (ht : 0 < t) : ∀ e ∈ addD m k t, 0 < e.2 := by
  have hv : 0 < (getD' m k).getD 0 + t := by
    cases hg : getD' m k with
    | none => simpa using ht
    | some v =>
      have := h _ (get_mem hg)
      show 0 < v + t
      have h2 : 0 < v := this
      omega
  intro e he
  unfold addD putD at he
  split at he
  · obtain ⟨e', h1, h2⟩ := List.mem_map.mp he
    split at h2
    · rw [← h2]
      exact hv
    · rw [← h2]
      exact h e' h1
  · rcases List.mem_append.mp he with h1 | h1
    · exact h e h1
    · rw [List.mem_singleton.mp h1]
      exact hv
theorem addD_keys {m : List (κ × Int)} {k : κ} {t : Int} (x : κ) : x ∈ (addD m k t).map (·.1) ↔ x = k ∨ x ∈ m.map (·.1) := putD_keys m k _ x
theorem addD_fold : ∀ (L : List (κ × Int)) (m : List (κ × Int)), (m.map (·.1)).Nodup → (∀ e ∈ m, 0 < e.2) → (∀ e ∈ L, 0 < e.2) →
    ((L.foldl (fun f x => addD f x.1 x.2) m).map (·.1)).Nodup ∧ (∀ e ∈ L.foldl (fun f x => addD f x.1 x.2) m, 0 < e.2) ∧ (∀ x, x ∈ (L.foldl (fun f x => addD f x.1 x.2) m).map (·.1) ↔ x ∈ m.map (·.1) ∨ x ∈ L.map (·.1)) ∧ ∀ g : κ → Int, ((L.foldl (fun f x => addD f x.1 x.2) m).map fun e => e.2 * g e.1).sum = (m.map fun e => e.2 * g e.1).sum + (L.map fun e => e.2 * g e.1).sum
  | [], m, nd, h, _ => ⟨nd, h, fun x => by simp, fun g => by simp⟩
  | y :: L, m, nd, h, hL => by
    obtain ⟨h1, h2, h3, h4⟩ := addD_fold L (addD m y.1 y.2) (putD_nodup m _ _ nd) (addD_pos h (hL y List.mem_cons_self)) fun e he => hL e (List.mem_cons_of_mem _ he)
    refine ⟨h1, h2, fun x => ?_, fun g => ?_⟩
    · rw [List.foldl_cons, h3, addD_keys, List.map_cons, List.mem_cons]
      constructor
      · rintro ((h | h) | h)
        · exact .inr (.inl h)
        · exact .inl h
        · exact .inr (.inr h)
      · rintro (h | h | h)
        · exact .inl (.inr h)
        · exact .inl (.inl h)
        · exact .inr h
    · rw [List.foldl_cons, h4, addD_sum g nd, List.map_cons, List.sum_cons]
      omega
theorem addD_len (m : List (κ × Int)) (k : κ) (t : Int) : (addD m k t).length ≤ m.length + 1 := by
  unfold addD putD
  split
  · simp
  · simp
theorem refold {β : Type} : ∀ (m d : List (κ × β)), ((d ++ m).map (·.1)).Nodup → m.foldl (fun d e => putD d e.1 e.2) d = d ++ m
  | [], d, _ => by simp
  | e :: m, d, nd => by
    have h : e.1 ∉ d.map (·.1) := fun z => by
      rw [List.map_append, List.nodup_append] at nd
      exact nd.2.2 _ z e.1 (by simp) rfl
    have h2 : putD d e.1 e.2 = d ++ [e] := by
      unfold putD
      rw [if_neg fun z => h (any_mem.mp z)]
    rw [List.foldl_cons, h2, refold m (d ++ [e]) (by simpa using nd)]
    simp
end
end K4
end
section
set_option linter.all false
set_option autoImplicit false
/-! the greatest fraction first -/
namespace K4
open PySem PySem.W
section
variable {β : Type}
theorem low_go : ∀ (m : List ((Int × Int) × β)) (l : Int), 0 < l → (∀ e ∈ m, 0 < e.1.2) → 0 < m.foldl (fun l e => l * e.1.2) l ∧ l ∣ m.foldl (fun l e => l * e.1.2) l ∧ ∀ e ∈ m, e.1.2 ∣ m.foldl (fun l e => l * e.1.2) l
  | [], l, h, _ => ⟨h, Int.dvd_refl _, fun e he => nomatch he⟩
  | x :: m, l, h, hp => by
    obtain ⟨h1, h2, h3⟩ := low_go m (l * x.1.2) (Int.mul_pos h (hp x List.mem_cons_self)) fun e he => hp e (List.mem_cons_of_mem _ he)
    refine ⟨h1, Int.dvd_trans (Int.dvd_mul_right ..) h2, fun e he => ?_⟩
    rcases List.mem_cons.mp he with rfl | he
    · exact Int.dvd_trans (Int.dvd_mul_left ..) h2
    · exact h3 e he
/-- greater fractions have smaller keys -/
theorem key_le {low a b c d : Int} (hl : 0 < low) (hb : 0 < b) (hd : 0 < d) (h1 : b ∣ low) (h2 : d ∣ low) (h : keyN low a b ≤ keyN low c d) : c * b ≤ a * d := by
  obtain ⟨u, hu⟩ := h1
  obtain ⟨w, hw⟩ := h2
  have e1 : low / b = u := by rw [hu]; exact Int.mul_ediv_cancel_left _ (by omega)
  have e2 : low / d = w := by rw [hw]; exact Int.mul_ediv_cancel_left _ (by omega)
  unfold keyN at h
  rw [e1, e2, Int.neg_mul, Int.neg_mul] at h
  have h3 : c * w ≤ a * u := by omega
  have h4 := Int.mul_le_mul_of_nonneg_right h3 (Int.le_of_lt (Int.mul_pos hb hd))
  have h5 : c * w * (b * d) = c * b * low := by rw [hw]; ac_rfl
  have h6 : a * u * (b * d) = a * d * low := by rw [hu]; ac_rfl
  rw [h5, h6] at h4
  exact Int.le_of_mul_le_mul_right h4 hl
abbrev Gt (x y : Int × Int) : Prop := y.1 * x.2 < x.1 * y.2
theorem ord_perm (m : List ((Int × Int) × β)) : (mOrd m).items.Perm m := List.mergeSort_perm _ _
theorem ord_sorted {m : List ((Int × Int) × β)} (nd : (m.map (·.1)).Nodup) (red : ∀ e ∈ m, Red e.1) : ((mOrd m).items.map (·.1)).Pairwise Gt := by
  obtain ⟨l1, _, l3⟩ := low_go m 1 (by decide) fun e he => (red e he).1
  have hs : (mOrd m).items.Pairwise fun x y => decide (keyE (lowOf m) x ≤ keyE (lowOf m) y) = true := List.pairwise_mergeSort (fun a b c h1 h2 => by
    simp only [decide_eq_true_eq] at *
    omega) (fun a b => by
    simp only [Bool.or_eq_true, decide_eq_true_eq]
    omega) m
  have hn : ((mOrd m).items.map (·.1)).Nodup := ((ord_perm m).map _).nodup_iff.mpr nd
  rw [List.pairwise_map]
  have hn2 : (mOrd m).items.Pairwise fun x y => x.1 ≠ y.1 := List.pairwise_map.mp hn
  refine (hs.and hn2).imp_of_mem fun {x y} hx hy h => ?_
  have hx' := (ord_perm m).mem_iff.mp hx
  have hy' := (ord_perm m).mem_iff.mp hy
  have k := key_le l1 (red x hx').1 (red y hy').1 (l3 x hx') (l3 y hy') (of_decide_eq_true h.1)
  refine Int.lt_iff_le_and_ne.mpr ⟨k, fun z => h.2 ?_⟩
  exact red_uniq (red x hx') (red y hy') z.symm
/-- two such lists with the same members are one -/
theorem gt_trans {x y z : Int × Int} (hx : 0 < x.2) (hy : 0 < y.2) (hz : 0 < z.2) (h1 : Gt x y) (h2 : Gt y z) : Gt x z := by
  unfold Gt at *
  have a1 := Int.mul_lt_mul_of_pos_right h1 hz
  have a2 := Int.mul_lt_mul_of_pos_right h2 hx
  have e1 : y.1 * x.2 * z.2 = y.1 * z.2 * x.2 := by ac_rfl
  have e2 : z.1 * y.2 * x.2 = z.1 * x.2 * y.2 := by ac_rfl
  have e3 : x.1 * y.2 * z.2 = x.1 * z.2 * y.2 := by ac_rfl
  rw [e1, e3] at a1
  rw [e2] at a2
  exact Int.lt_of_mul_lt_mul_right (Int.lt_trans a2 a1) (Int.le_of_lt hy)
theorem sorted_uniq : ∀ {xs ys : List (Int × Int)}, (∀ x ∈ xs, 0 < x.2) → (∀ x, x ∈ xs ↔ x ∈ ys) → xs.Pairwise Gt → ys.Pairwise Gt → xs = ys
  | [], [], _, _, _, _ => rfl
  | [], y :: ys, _, h, _, _ => nomatch (h y).mpr List.mem_cons_self
  | x :: xs, [], _, h, _, _ => nomatch (h x).mp List.mem_cons_self
  | x :: xs, y :: ys, hp, h, s1, s2 => by
    rw [List.pairwise_cons] at s1 s2
    have irr : ∀ a : Int × Int, ¬ Gt a a := fun a z => by unfold Gt at z; omega
    have e : x = y := by
      rcases List.mem_cons.mp ((h x).mp List.mem_cons_self) with e | h1
      · exact e
      · rcases List.mem_cons.mp ((h y).mpr List.mem_cons_self) with e | h2
        · exact e.symm
        · have g1 := s2.1 x h1
          have g2 := s1.1 y h2
          unfold Gt at g1 g2
          omega
    subst e
    have h3 : ∀ z, z ∈ xs ↔ z ∈ ys := fun z => by
      constructor
      · intro hz
        rcases List.mem_cons.mp ((h z).mp (List.mem_cons_of_mem _ hz)) with e | h1
        · exact absurd (s1.1 z hz) (by rw [e]; exact irr x)
        · exact h1
      · intro hz
        rcases List.mem_cons.mp ((h z).mpr (List.mem_cons_of_mem _ hz)) with e | h1
        · exact absurd (s2.1 z hz) (by rw [e]; exact irr x)
        · exact h1
    rw [sorted_uniq (fun z hz => hp z (List.mem_cons_of_mem _ hz)) h3 s1.2 s2.2]
end
end K4
end
section
set_option linter.all false
set_option autoImplicit false
/-! the law's two claims, with no board in sight -/
namespace K4
theorem foldmul_zero {β : Type} (h : β → Int) : ∀ (l : List β) (p : Int), (p = 0 ∨ ∃ x ∈ l, h x = 0) → l.foldl (fun p x => p * h x) p = 0
  | [], p, z => z.elim id fun ⟨x, hx, _⟩ => nomatch hx
  | y :: l, p, z => foldmul_zero h l (p * h y) (by
    rcases z with rfl | ⟨x, hx, hz⟩
    · exact .inl (Int.zero_mul _)
    · rcases List.mem_cons.mp hx with rfl | hx
      · exact .inl (by rw [hz, Int.mul_zero])
      · exact .inr ⟨x, hx, hz⟩)
theorem foldmul_ne {β : Type} (h : β → Int) : ∀ (l : List β) (p : Int), p ≠ 0 → (∀ x ∈ l, h x ≠ 0) → l.foldl (fun p x => p * h x) p ≠ 0
  | [], p, hp, _ => hp
  | y :: l, p, hp, hl => foldmul_ne h l (p * h y) (Int.mul_ne_zero hp (hl y List.mem_cons_self)) fun x hx => hl x (List.mem_cons_of_mem _ hx)
theorem foldmul_congr {β : Type} {h h' : β → Int} : ∀ (l : List β) (p : Int), (∀ x ∈ l, h x = h' x) → l.foldl (fun p x => p * h x) p = l.foldl (fun p x => p * h' x) p
  | [], p, _ => rfl
  | y :: l, p, hl => by
    rw [List.foldl_cons, List.foldl_cons, hl y List.mem_cons_self]
    exact foldmul_congr l _ fun x hx => hl x (List.mem_cons_of_mem _ hx)
theorem foldmul_pow {c : Int} : ∀ (k : Nat) (p : Int), (List.replicate k ()).foldl (fun p _ => p * c) p = p * c ^ k
  | 0, p => by simp
  | k + 1, p => by
    rw [List.replicate_succ, List.foldl_cons, foldmul_pow k, Int.pow_succ]
    ac_rfl
theorem sum_le {β : Type} {f g : β → Int} : ∀ {l : List β}, (∀ x ∈ l, f x ≤ g x) → (l.map f).sum ≤ (l.map g).sum
  | [], _ => Int.le_refl _
  | x :: l, h => by
    simp only [List.map_cons, List.sum_cons]
    have h1 := h x List.mem_cons_self
    have h2 := sum_le (l := l) fun y hy => h y (List.mem_cons_of_mem _ hy)
    omega
theorem sum_lt {β : Type} {f g : β → Int} : ∀ {l : List β}, (∀ x ∈ l, f x ≤ g x) → (∃ x ∈ l, f x < g x) → (l.map f).sum < (l.map g).sum
  | [], _, h => by obtain ⟨x, hx, _⟩ := h; cases hx
  | x :: l, h, ⟨y, hy, hlt⟩ => by
    simp only [List.map_cons, List.sum_cons]
    have h1 := h x List.mem_cons_self
    have h2 := sum_le (l := l) fun y hy => h y (List.mem_cons_of_mem _ hy)
    rcases List.mem_cons.mp hy with rfl | hy
    · omega
    · have h3 := sum_lt (l := l) (fun y hy => h y (List.mem_cons_of_mem _ hy)) ⟨y, hy, hlt⟩
      omega
section
variable {α ε χ : Type} [DecidableEq α]
def wAll (ms : List (ε × Int)) : Int := (ms.map (·.2)).sum
/-- what is known of the chain -/
structure Core (l : List α) (pl : α → ε → α) (mul : ε → ε → ε) (ms : List (ε × Int)) (fx : List (χ × Int)) (le : ε → χ → Bool) (lu : ε → ε → Bool) (E : ε → Prop) (one : ε) : Prop where
  nd : l.Nodup
  hc : ∀ z ∈ l, ∀ e ∈ ms, pl z e.1 ∈ l
  hE : ∀ e ∈ ms, ∀ u, E u → E (mul e.1 u)
  hm : ∀ u, E u → ∀ z ∈ l, ∀ e ∈ ms, pl (pl z e.1) u = pl z (mul e.1 u)
  hl : ∀ u, E u → ∀ e ∈ ms, ∀ X ∈ fx, le (mul e.1 u) X.1 = (le e.1 X.1 && le u X.1)
  hfix : ∀ u, E u → ((l.filter fun z => decide (pl z u = z)).length : Int) = ((fx.filter fun X => le u X.1).map (·.2)).sum
  hp : ∀ u, E u → ∀ z ∈ l, pl z u ∈ l
  h1 : E one
  hone : ∀ x ∈ l, pl x one = x
  lone : ∀ X ∈ fx, le one X.1 = true
  ha : ∀ u, E u → ∀ e ∈ ms, lu e.1 u = true → mul e.1 u = u
  hfl : ∀ u, E u → ∃ X ∈ fx, ∀ e ∈ ms, le e.1 X.1 = lu e.1 u
  up1 : ∀ u, E u → ∀ e ∈ ms, ∀ f ∈ ms, lu f.1 u = true → lu f.1 (mul e.1 u) = true
  up2 : ∀ u, E u → ∀ e ∈ ms, lu e.1 (mul e.1 u) = true
  mpos : ∀ e ∈ ms, 0 < e.2
  xpos : ∀ X ∈ fx, 0 < X.2
  wpos : 0 < wAll ms
variable {l : List α} {pl : α → ε → α} {mul : ε → ε → ε} {ms : List (ε × Int)} {fx : List (χ × Int)} {le : ε → χ → Bool} {lu : ε → ε → Bool} {E : ε → Prop} {one : ε}
/-- the value of a flat -/
def valX (ms : List (ε × Int)) (le : ε → χ → Bool) (X : χ) : Int × Int := mFr (wt ms le X) (wAll ms)
/-- the weight that belongs to a value -/
def LL (W : Int) (v : Int × Int) : Int := v.1 * W / v.2
theorem LL_is {L W : Int} {v : Int × Int} (hv : 0 < v.2) (h : Is v L W) : LL W v = L := by
  unfold LL
  rw [show v.1 * W = L * v.2 from h]
  exact Int.mul_ediv_cancel _ (by omega)
/-- the list of values -/
structure Vals (ms : List (ε × Int)) (fx : List (χ × Int)) (le : ε → χ → Bool) (vals : List ((Int × Int) × Int)) : Prop where
  sorted : (vals.map (·.1)).Pairwise Gt
  mem : ∀ v, v ∈ vals.map (·.1) ↔ ∃ X ∈ fx, v = valX ms le X.1
  sum : ∀ g : Int × Int → Int, (vals.map fun e => e.2 * g e.1).sum = (fx.map fun X => X.2 * g (valX ms le X.1)).sum
variable {vals : List ((Int × Int) × Int)}
theorem Vals.is (V : Vals ms fx le vals) (wp : 0 < wAll ms) {v : Int × Int} (h : v ∈ vals.map (·.1)) : Red v ∧ Is v (LL (wAll ms) v) (wAll ms) := by
  obtain ⟨X, hX, rfl⟩ := (V.mem v).mp h
  have r := mFr_red (a := wt ms le X.1) wp
  have i := mFr_is (a := wt ms le X.1) wp
  refine ⟨r, ?_⟩
  unfold valX
  rw [LL_is r.1 i]
  exact i
/-- the trace of a product -/
def trc (l : List α) (N : α → α → Int) : Int := (l.map fun x => N x x).sum
theorem Core.trace (C : Core l pl mul ms fx le lu E one) (facs : List (Int × Int)) : trc l (prods l pl ms facs) = (fx.map fun X => X.2 * rval ms le facs X.1).sum := by
  have h := tau_prods l pl mul ms fx le E C.nd C.hc C.hE C.hm C.hl C.hfix C.hp facs C.h1
  have e1 : tau l pl (prods l pl ms facs) one = trc l (prods l pl ms facs) := by
    unfold tau trc
    refine sum_congr fun x hx => ?_
    rw [← sum_at (fun z => prods l pl ms facs x z) x C.nd hx]
    refine sum_congr fun z hz => ?_
    rw [C.hone z hz]
    by_cases e : z = x
    · rw [if_pos e, if_pos e.symm]
    · rw [if_neg e, if_neg fun q => e q.symm]
  rw [← e1, h]
  unfold form
  exact sum_congr fun X hX => by rw [if_pos (C.lone X hX)]
theorem rval_pow (X : χ) (k : Nat) : rval ms le (List.replicate k (1, 0)) X = wt ms le X ^ k := by
  have h : ∀ (k : Nat) (p : Int), (List.replicate k ((1, 0) : Int × Int)).foldl (fun p f => p * (f.1 * wt ms le X - f.2)) p = p * wt ms le X ^ k := by
    intro k
    induction k with
    | zero => intro p; simp
    | succ k ih =>
      intro p
      rw [List.replicate_succ, List.foldl_cons, ih, Int.pow_succ, Int.one_mul, Int.sub_zero]
      ac_rfl
  unfold rval
  rw [h k 1, Int.one_mul]
theorem Core.powers (C : Core l pl mul ms fx le lu E one) (V : Vals ms fx le vals) (k : Nat) : trc l (prods l pl ms (List.replicate k (1, 0))) = (vals.map fun e => e.2 * LL (wAll ms) e.1 ^ k).sum := by
  rw [C.trace, V.sum fun v => LL (wAll ms) v ^ k]
  refine sum_congr fun X hX => ?_
  rw [rval_pow]
  unfold valX
  rw [LL_is (mFr_red C.wpos).1 (mFr_is C.wpos)]
/-! the sums of fractions -/
def mSums (vals : List ((Int × Int) × Int)) (k : Nat) : Int × Int := vals.foldl (fun p e => mPlus p (mPart e.2 e.1 k)) (0, 1)
theorem zero_is (b : Int) : Is (0, 1) 0 b := by unfold Is; simp
theorem Vals.sums (V : Vals ms fx le vals) (wp : 0 < wAll ms) (k : Nat) {vs : List ((Int × Int) × Int)} (hv : ∀ e ∈ vs, e ∈ vals) : Is (mSums vs k) ((vs.map fun e => e.2 * LL (wAll ms) e.1 ^ k).sum) (wAll ms ^ k) ∧ Red (mSums vs k) := by
  have h := fold_is (fun e : (Int × Int) × Int => mPart e.2 e.1 k) (fun e => e.2 * LL (wAll ms) e.1 ^ k) (wAll ms ^ k) vs (0, 1) 0 (by decide) (zero_is _) fun e he => by
    obtain ⟨r, i⟩ := V.is wp (List.mem_map.mpr ⟨e, hv e he, rfl⟩)
    obtain ⟨i2, r2⟩ := part_is (t := e.2) r.1 i k
    exact ⟨r2, i2⟩
  rw [Int.zero_add] at h
  exact h
def mTr (vals : List ((Int × Int) × Int)) (k : Nat) : Int × Int := vals.foldl (fun p e => mPlus p (mTimes (mRaisedN e.1 k) (e.2, 1))) (0, 1)
theorem Vals.trs (V : Vals ms fx le vals) (wp : 0 < wAll ms) (k : Nat) {vs : List ((Int × Int) × Int)} (hv : ∀ e ∈ vs, e ∈ vals) : Is (mTr vs k) ((vs.map fun e => e.2 * LL (wAll ms) e.1 ^ k).sum) (wAll ms ^ k) ∧ Red (mTr vs k) := by
  have h := fold_is (fun e : (Int × Int) × Int => mTimes (mRaisedN e.1 k) (e.2, 1)) (fun e => e.2 * LL (wAll ms) e.1 ^ k) (wAll ms ^ k) vs (0, 1) 0 (by decide) (zero_is _) fun e he => by
    obtain ⟨r, i⟩ := V.is wp (List.mem_map.mpr ⟨e, hv e he, rfl⟩)
    obtain ⟨i2, r2⟩ := raised_is r.1 i k
    have i3 : Is (e.2, 1) e.2 1 := rfl
    have i4 := Is.times r2.1 (by decide : (0 : Int) < 1) i2 i3
    rw [Int.mul_one, Int.mul_comm] at i4
    exact ⟨times_red r2.1 (by decide : (0 : Int) < 1), i4⟩
  rw [Int.zero_add] at h
  exact h
theorem Core.sums (C : Core l pl mul ms fx le lu E one) (V : Vals ms fx le vals) (k : Nat) : mSums vals k = mFr (trc l (prods l pl ms (List.replicate k (1, 0)))) (wAll ms ^ k) := by
  obtain ⟨h1, h2⟩ := V.sums C.wpos k (vs := vals) fun e h => h
  rw [C.powers V k]
  exact is_mFr h2 (Int.pow_pos C.wpos) h1
theorem Core.trs (C : Core l pl mul ms fx le lu E one) (V : Vals ms fx le vals) (k : Nat) : mTr vals k = mSums vals k := by
  obtain ⟨h1, h2⟩ := V.sums C.wpos k (vs := vals) fun e h => h
  obtain ⟨h3, h4⟩ := V.trs C.wpos k (vs := vals) fun e h => h
  exact is_uniq h4 h2 (Int.ne_of_gt (Int.pow_pos C.wpos)) h3 h1
/-! the products -/
def Fv (W : Int) (v : Int × Int) : Int × Int := (v.2, v.1 * W)
theorem Core.wu (C : Core l pl mul ms fx le lu E one) {u : ε} (hu : E u) : ∃ X ∈ fx, wt ms le X.1 = wu ms lu u := by
  obtain ⟨X, hX, h⟩ := C.hfl u hu
  refine ⟨X, hX, ?_⟩
  unfold wt K4.wu
  exact sum_congr fun e he => by rw [h e he]
/-- the value of a word -/
def valU (ms : List (ε × Int)) (lu : ε → ε → Bool) (u : ε) : Int × Int := mFr (wu ms lu u) (wAll ms)
theorem Core.valU (C : Core l pl mul ms fx le lu E one) (V : Vals ms fx le vals) {u : ε} (hu : E u) : valU ms lu u ∈ vals.map (·.1) := by
  obtain ⟨X, hX, h⟩ := C.wu hu
  exact (V.mem _).mpr ⟨X, hX, by unfold K4.valU valX; rw [h]⟩
theorem Fv_iff {W L : Int} {v : Int × Int} (hW : 0 < W) (hv : Red v) : (Fv W v).1 * L = (Fv W v).2 ↔ v = mFr L W := by
  unfold Fv
  constructor
  · intro h
    have h' : v.2 * L = v.1 * W := h
    exact is_mFr hv hW (show v.1 * W = L * v.2 by rw [← h', Int.mul_comm])
  · rintro rfl
    have := mFr_is (a := L) hW
    unfold Is at this
    show (mFr L W).2 * L = (mFr L W).1 * W
    rw [this, Int.mul_comm]
theorem Core.wlt (C : Core l pl mul ms fx le lu E one) {u : ε} (hu : E u) {e : ε × Int} (he : e ∈ ms) (h : lu e.1 u = false) : K4.wu ms lu u < K4.wu ms lu (mul e.1 u) := by
  unfold K4.wu
  refine sum_lt (fun f hf => ?_) ⟨e, he, ?_⟩
  · by_cases hq : lu f.1 u = true
    · rw [if_pos hq, if_pos (C.up1 u hu e he f hf hq)]
      exact Int.le_refl _
    · rw [if_neg hq]
      have := C.mpos f hf
      split <;> omega
  · rw [if_neg (by rw [h]; decide), if_pos (C.up2 u hu e he)]
    exact C.mpos e he
theorem Core.zero (C : Core l pl mul ms fx le lu E one) (V : Vals ms fx le vals) {x y : α} (hx : x ∈ l) (hy : y ∈ l) : prods l pl ms ((vals.map (·.1)).map (Fv (wAll ms))) x y = 0 := by
  have hV : ∀ {u}, E u → K4.valU ms lu u ∈ vals.map (·.1) := fun hu => C.valU V hu
  have sorted := V.sorted
  have hred : ∀ v ∈ vals.map (·.1), Red v := fun v hv => (V.is C.wpos hv).1
  generalize vals.map (·.1) = vs at hV sorted hred
  refine prods_zero l pl mul ms lu (E := E) (one := one) C.nd C.h1 C.hone C.hc C.hE C.hm C.ha ?_ ?_ hx hy
  · intro rest f suf hw u hu hf e he hle
    obtain ⟨a, b, rfl, ha, hb⟩ := List.map_eq_append_iff.mp hw
    obtain ⟨v0, b', rfl, hv0, hb'⟩ := List.map_eq_cons_iff.mp hb
    subst ha hv0
    obtain ⟨f', hf', hroot⟩ := hf
    have hvu : K4.valU ms lu u ∈ a ++ [v0] := by
      have : f' ∈ (a ++ [v0]).map (Fv (wAll ms)) := by simpa using hf'
      obtain ⟨v, hv, rfl⟩ := List.mem_map.mp this
      have hv2 : v ∈ a ++ v0 :: b' := by
        rcases List.mem_append.mp hv with h | h
        · exact List.mem_append.mpr (.inl h)
        · exact List.mem_append.mpr (.inr (List.mem_cons.mpr (.inl (List.mem_singleton.mp h))))
      have := (Fv_iff C.wpos (hred v hv2)).mp hroot
      unfold K4.valU
      rw [← this]
      exact hv
    have hu' := C.hE e he u hu
    have hm := hV hu'
    have hlt := C.wlt hu he hle
    have hgt : Gt (K4.valU ms lu (mul e.1 u)) (K4.valU ms lu u) := by
      have i1 := mFr_is (a := K4.wu ms lu u) C.wpos
      have i2 := mFr_is (a := K4.wu ms lu (mul e.1 u)) C.wpos
      have p1 := (mFr_red (a := K4.wu ms lu u) C.wpos).1
      have p2 := (mFr_red (a := K4.wu ms lu (mul e.1 u)) C.wpos).1
      have wp := C.wpos
      unfold K4.valU Gt
      generalize wAll ms = W at *
      generalize K4.wu ms lu u = A at *
      generalize K4.wu ms lu (mul e.1 u) = B at *
      generalize mFr A W = p at *
      generalize mFr B W = q at *
      unfold Is at i1 i2
      have h1 : p.1 * q.2 * W = A * (p.2 * q.2) := by rw [Int.mul_right_comm, i1]; ac_rfl
      have h2 : q.1 * p.2 * W = B * (p.2 * q.2) := by rw [Int.mul_right_comm, i2]; ac_rfl
      have h3 := Int.mul_lt_mul_of_pos_right hlt (Int.mul_pos p1 p2)
      rw [← h1, ← h2] at h3
      exact Int.lt_of_mul_lt_mul_right h3 (Int.le_of_lt wp)
    have irr : ∀ v : Int × Int, ¬ Gt v v := fun v z => by unfold Gt at z; omega
    have asym : ∀ v w : Int × Int, Gt v w → ¬ Gt w v := fun v w z z2 => by unfold Gt at z z2; omega
    rw [List.pairwise_append] at sorted
    obtain ⟨s1, s2, s3⟩ := sorted
    rw [List.pairwise_cons] at s2
    have hin : K4.valU ms lu (mul e.1 u) ∈ a := by
      rcases List.mem_append.mp hm with h | h
      · exact h
      · exfalso
        rcases List.mem_append.mp hvu with g | g
        · exact asym _ _ hgt (s3 _ g _ h)
        · rw [List.mem_singleton.mp g] at hgt
          rcases List.mem_cons.mp h with z | z
          · rw [z] at hgt
            exact irr _ hgt
          · exact asym _ _ hgt (s2.1 _ z)
    exact ⟨_, List.mem_map.mpr ⟨_, hin, rfl⟩, (Fv_iff C.wpos (mFr_red C.wpos)).mpr rfl⟩
  · exact ⟨_, List.mem_map.mpr ⟨_, hV C.h1, rfl⟩, (Fv_iff C.wpos (mFr_red C.wpos)).mpr rfl⟩
theorem Core.left (C : Core l pl mul ms fx le lu E one) (V : Vals ms fx le vals) {v0 : Int × Int} {a b : List (Int × Int)} (hv : vals.map (·.1) = a ++ v0 :: b) : trc l (prods l pl ms ((a ++ b).map (Fv (wAll ms)))) ≠ 0 := by
  rw [C.trace]
  have hred : ∀ v ∈ vals.map (·.1), Red v := fun v hv => (V.is C.wpos hv).1
  have hmem := V.mem
  have sorted := V.sorted
  rw [hv] at hred hmem sorted
  obtain ⟨X0, hX0, e0⟩ := (hmem v0).mp (by simp)
  have irr : ∀ v : Int × Int, ¬ Gt v v := fun v z => by unfold Gt at z; omega
  have hn : v0 ∉ a ++ b := fun z => by
    rw [List.pairwise_append] at sorted
    obtain ⟨s1, s2, s3⟩ := sorted
    rw [List.pairwise_cons] at s2
    rcases List.mem_append.mp z with h | h
    · exact irr v0 (s3 v0 h v0 List.mem_cons_self)
    · exact irr v0 (s2.1 v0 h)
  have hin : ∀ v ∈ a ++ b, v ∈ a ++ v0 :: b := fun v h => by
    simp only [List.mem_append, List.mem_cons] at h ⊢
    rcases h with h | h
    · exact .inl h
    · exact .inr (.inr h)
  have hC : ∀ X ∈ fx, rval ms le ((a ++ b).map (Fv (wAll ms))) X.1 = if valX ms le X.1 = v0 then rval ms le ((a ++ b).map (Fv (wAll ms))) X0.1 else 0 := fun X hX => by
    unfold rval
    rw [List.foldl_map, List.foldl_map]
    by_cases e : valX ms le X.1 = v0
    · rw [if_pos e]
      have : wt ms le X.1 = wt ms le X0.1 := by
        have i1 := mFr_is (a := wt ms le X.1) C.wpos
        have i2 := mFr_is (a := wt ms le X0.1) C.wpos
        unfold valX at e e0
        rw [e] at i1
        rw [← e0] at i2
        have r := (hred v0 (by simp)).1
        rw [← LL_is r i1, ← LL_is r i2]
      rw [this]
    · rw [if_neg e]
      refine foldmul_zero (fun v => (Fv (wAll ms) v).1 * wt ms le X.1 - (Fv (wAll ms) v).2) _ 1 (.inr ⟨valX ms le X.1, ?_, ?_⟩)
      · have h1 := (hmem (valX ms le X.1)).mpr ⟨X, hX, rfl⟩
        simp only [List.mem_append, List.mem_cons] at h1 ⊢
        rcases h1 with h | h | h
        · exact .inl h
        · exact absurd h e
        · exact .inr h
      · have := (Fv_iff (L := wt ms le X.1) C.wpos (mFr_red (a := wt ms le X.1) C.wpos)).mpr rfl
        unfold valX
        omega
  have hne : rval ms le ((a ++ b).map (Fv (wAll ms))) X0.1 ≠ 0 := by
    unfold rval
    rw [List.foldl_map]
    refine foldmul_ne (fun v => (Fv (wAll ms) v).1 * wt ms le X0.1 - (Fv (wAll ms) v).2) _ 1 (by decide) fun v h z => hn ?_
    have h1 := (Fv_iff (L := wt ms le X0.1) C.wpos (hred v (hin v h))).mp (by omega)
    rw [e0]
    unfold valX
    rw [← h1]
    exact h
  rw [sum_congr (l := fx) (g := fun X => rval ms le ((a ++ b).map (Fv (wAll ms))) X0.1 * if valX ms le X.1 = v0 then X.2 else 0) fun X hX => by
    rw [hC X hX]
    split
    · exact Int.mul_comm _ _
    · simp, sum_mul]
  refine Int.mul_ne_zero hne (Int.ne_of_gt ?_)
  have h0 := sum_lt (f := fun _ => (0 : Int)) (g := fun X : χ × Int => if valX ms le X.1 = v0 then X.2 else 0) (l := fx) (fun X hX => by
    have := C.xpos X hX
    split <;> omega) ⟨X0, hX0, by rw [if_pos e0.symm]; exact C.xpos X0 hX0⟩
  rw [sum_zero] at h0
  exact h0
end
end K4
end
section
set_option linter.all false
set_option autoImplicit false
/-! lists of lists and what they stand for -/
namespace K4
section
variable {α ε : Type} [DecidableEq α] {ys : List α}
def matOf (ys : List α) (N : α → α → Int) : Mat := ys.map fun x => ys.map fun y => N x y
theorem rng_map {γ : Type} (f : Int → γ) (g : α → γ) (h : ∀ (i : Nat) x, ys[i]? = some x → f (i : Int) = g x) : (rng 0 ys.length).map f = ys.map g := by
  apply List.ext_getElem?
  intro i
  unfold rng
  rw [List.getElem?_map, List.getElem?_map, List.getElem?_map]
  cases e : ys[i]? with
  | none =>
    have := List.getElem?_eq_none_iff.mp e
    rw [List.getElem?_eq_none (by rw [List.length_range]; exact this)] <;> rfl
  | some x =>
    have hi := (List.getElem?_eq_some_iff.mp e).1
    rw [List.getElem?_range hi]
    show some (f (0 + (i : Int))) = some (g x)
    rw [Int.zero_add, h i x e]
theorem getD_some {γ : Type} {xs : List γ} {i : Nat} {x d : γ} (h : xs[i]? = some x) : xs.getD i d = x := by
  rw [List.getD_eq_getElem?_getD, h] <;> rfl
theorem matOf_at {N : α → α → Int} {i j : Nat} {x y : α} (hi : ys[i]? = some x) (hj : ys[j]? = some y) : mAt (matOf ys N) (i : Int) (j : Int) = N x y := by
  unfold mAt matOf
  rw [Int.toNat_natCast, Int.toNat_natCast]
  rw [getD_some (x := ys.map fun y => N x y) (by rw [List.getElem?_map, hi] <;> rfl)]
  exact getD_some (by rw [List.getElem?_map, hj] <;> rfl)
theorem matOf_len {N : α → α → Int} : (matOf ys N).length = ys.length := by unfold matOf; rw [List.length_map]
theorem prod_matOf (N B : α → α → Int) : mProd (matOf ys N) (matOf ys B) = matOf ys fun x y => (ys.map fun z => N x z * B z y).sum := by
  unfold mProd
  rw [matOf_len, Int.toNat_natCast]
  refine rng_map _ _ fun i x hi => rng_map _ _ fun j y hj => congrArg List.sum (rng_map _ _ fun k z hk => ?_)
  rw [matOf_at hi hk, matOf_at hk hj]
def mId (n : Nat) : Mat := (rng 0 n).map fun i => (rng 0 n).map fun j => if decide (i = j) = true then (1 : Int) else 0
theorem nodup_at (nd : ys.Nodup) {i j : Nat} {x y : α} (hi : ys[i]? = some x) (hj : ys[j]? = some y) : x = y ↔ (i : Int) = (j : Int) := by
  constructor
  · rintro rfl
    obtain ⟨h1, e1⟩ := List.getElem?_eq_some_iff.mp hi
    obtain ⟨h2, e2⟩ := List.getElem?_eq_some_iff.mp hj
    exact congrArg _ ((List.getElem_inj nd).mp (e1.trans e2.symm))
  · intro h
    have h' : i = j := by omega
    subst h'
    rw [hi] at hj
    exact Option.some.inj hj
theorem id_matOf (nd : ys.Nodup) : mId ys.length = matOf ys fun x y => if x = y then 1 else 0 := by
  refine rng_map _ _ fun i x hi => rng_map _ _ fun j y hj => ?_
  by_cases e : x = y
  · show _ = if x = y then (1 : Int) else 0
    rw [if_pos e, if_pos (decide_eq_true ((nodup_at nd hi hj).mp e))]
  · show _ = if x = y then (1 : Int) else 0
    rw [if_neg e, if_neg fun z => e ((nodup_at nd hi hj).mpr (of_decide_eq_true z))]
/-- a factor -/
def mFac (steps : Mat) (n : Nat) (v : Int × Int) (W : Int) : Mat := (rng 0 n).map fun i => (rng 0 n).map fun j => mAt steps i j * v.2 - if decide (i = j) = true then v.1 * W else 0
variable (pl : α → ε → α) (ms : List (ε × Int))
theorem fac_matOf (nd : ys.Nodup) (v : Int × Int) (W : Int) : mFac (matOf ys (stp pl ms)) ys.length v W = matOf ys fun z y => v.2 * stp pl ms z y - if z = y then v.1 * W else 0 := by
  refine rng_map _ _ fun i x hi => rng_map _ _ fun j y hj => ?_
  rw [matOf_at hi hj, Int.mul_comm]
  congr 1
  by_cases e : x = y
  · rw [if_pos e, if_pos (decide_eq_true ((nodup_at nd hi hj).mp e))]
  · rw [if_neg e, if_neg fun z => e ((nodup_at nd hi hj).mpr (of_decide_eq_true z))]
theorem prod_fac (nd : ys.Nodup) (N : α → α → Int) (v : Int × Int) (W : Int) : mProd (matOf ys N) (mFac (matOf ys (stp pl ms)) ys.length v W) = matOf ys (fac ys pl ms v.2 (v.1 * W) N) := by
  rw [fac_matOf pl ms nd, prod_matOf]
  rfl
theorem prod_step (N : α → α → Int) : mProd (matOf ys N) (matOf ys (stp pl ms)) = matOf ys (fac ys pl ms 1 0 N) := by
  rw [prod_matOf]
  unfold matOf fac
  refine List.map_congr_left fun x _ => List.map_congr_left fun y _ => sum_congr fun z _ => ?_
  simp
def mPow (steps : Mat) (n : Nat) : Nat → Mat
  | 0 => mId n
  | k + 1 => mProd (mPow steps n k) steps
theorem replicate_snoc {γ : Type} (x : γ) : ∀ k, List.replicate (k + 1) x = List.replicate k x ++ [x]
  | 0 => rfl
  | k + 1 => congrArg (x :: ·) (replicate_snoc x k)
theorem pow_matOf (nd : ys.Nodup) : ∀ k, mPow (matOf ys (stp pl ms)) ys.length k = matOf ys (prods ys pl ms (List.replicate k (1, 0)))
  | 0 => id_matOf nd
  | k + 1 => by
    show mProd (mPow _ _ k) _ = _
    rw [pow_matOf nd k, prod_step, replicate_snoc]
    unfold prods
    rw [List.foldl_append] <;> rfl
def mNow (steps : Mat) (n : Nat) (W : Int) (vs : List (Int × Int)) : Mat := vs.foldl (fun N v => mProd N (mFac steps n v W)) (mId n)
theorem now_matOf (nd : ys.Nodup) (W : Int) (vs : List (Int × Int)) : mNow (matOf ys (stp pl ms)) ys.length W vs = matOf ys (prods ys pl ms (vs.map (Fv W))) := by
  unfold mNow prods
  rw [id_matOf nd, List.foldl_map]
  generalize (fun (x y : α) => if x = y then (1 : Int) else 0) = N
  induction vs generalizing N with
  | nil => rfl
  | cons v vs ih =>
    rw [List.foldl_cons, List.foldl_cons, prod_fac pl ms nd]
    exact ih _
theorem trc_matOf (N : α → α → Int) : ((rng 0 ys.length).map fun i => mAt (matOf ys N) i i).sum = trc ys N := by
  unfold trc
  exact congrArg List.sum (rng_map _ _ fun i x hi => matOf_at hi hi)
/-- nothing but noughts -/
def isZero (m : Mat) : Bool := decide ((m.filter fun line => decide ((line.filter fun x => decide (x ≠ 0)) ≠ [])) = [])
theorem zero_matOf (N : α → α → Int) : isZero (matOf ys N) = true ↔ ∀ x ∈ ys, ∀ y ∈ ys, N x y = 0 := by
  unfold isZero matOf
  rw [decide_eq_true_iff, List.filter_eq_nil_iff]
  constructor
  · intro h x hx y hy
    have h1 := h _ (List.mem_map.mpr ⟨x, hx, rfl⟩)
    rw [decide_eq_true_iff] at h1
    have h2 := List.filter_eq_nil_iff.mp (Classical.not_not.mp h1) (N x y) (List.mem_map.mpr ⟨y, hy, rfl⟩)
    rw [decide_eq_true_iff] at h2
    exact Classical.not_not.mp h2
  · intro h line hl
    obtain ⟨x, hx, rfl⟩ := List.mem_map.mp hl
    rw [decide_eq_true_iff]
    refine fun z => z (List.filter_eq_nil_iff.mpr fun v hv => ?_)
    obtain ⟨y, hy, rfl⟩ := List.mem_map.mp hv
    rw [decide_eq_true_iff, h x hx y hy]
    exact fun z => z rfl
/-- one line of the steps -/
theorem set_map (nd : ys.Nodup) (f : α → Int) {z : α} (w : Int) (hz : z ∈ ys) : (ys.map f).set (ys.idxOf z) (f z + w) = ys.map fun y => f y + if z = y then w else 0 := by
  apply List.ext_getElem?
  intro i
  have hlt : ys.idxOf z < ys.length := List.idxOf_lt_length_of_mem hz
  have hzz : ys[ys.idxOf z]? = some z := by rw [List.getElem?_eq_getElem hlt, List.getElem_idxOf]
  rw [List.getElem?_set]
  by_cases e : ys.idxOf z = i
  · subst e
    rw [if_pos rfl, if_pos (by rw [List.length_map]; exact hlt), List.getElem?_map, hzz]
    show some _ = some (f z + if z = z then w else 0)
    rw [if_pos rfl]
  · rw [if_neg e, List.getElem?_map, List.getElem?_map]
    cases h : ys[i]? with
    | none => rfl
    | some y =>
      show some (f y) = some (f y + if z = y then w else 0)
      rw [if_neg fun q => e (by have := (nodup_at nd hzz h).mp q; omega), Int.add_zero]
theorem stp_take {i : Nat} {e : ε × Int} (h : ms[i]? = some e) (x y : α) : stp pl (ms.take (i + 1)) x y = stp pl (ms.take i) x y + if pl x e.1 = y then e.2 else 0 := by
  unfold stp
  rw [List.take_add_one, h, List.map_append, List.sum_append]
  simp
end
end K4
end
section
set_option Elab.async false
set_option linter.all false
set_option maxRecDepth 100000
set_option maxHeartbeats 4000000
namespace K4
open PySem PySem.Spec PyProof.Rows L2 PySem.W
variable {P : Program} {w : World} {K : PySem.W.Frag} {mg : Str → Option Value} {base : Heap} {T : List (Addr × Str)}

def sp_law (K : PySem.W.Frag) (T : List (Addr × Str)) : Sp := fun vs H Q _ => ∃ (sc : Addr) (xs : List Int), vs = [.ref sc] ∧ SqL K H sc (xs.map V.int) ∧ LamX.Tabs T H ∧ ∀ H', Q (.bl true) H'
def t_law_18 (K : PySem.W.Frag) (T : List (Addr × Str)) : TS := (tSeq (tAsg (tLc (iRng1 (tCons (tVar 7) tNil)) (gName 27) tYes (tLc (iRng1 (tCons (tVar 7) tNil)) (gName 28) tYes (tCB rInt1 (tCons (tOp (rEqQ Int) (tVar 27) (tVar 28)) tNil)) [28]) [27]) (gName 14))
  (tSeq (tFor (iTup K (tOp (rCatA K) (tSl (rSlA K) (tVar 22) tNoPart (tPart (tVar 24))) (tSl (rSlA K) (tVar 22) (tPart (tOp (rI0 fun i j => .int (i + j)) (tVar 24) (tC (.int 1)))) tNoPart))) (gName 18)
   (tSeq (tAsg (tLc (iRng1 (tCons (tVar 7) tNil)) (gName 27) tYes (tLc (iRng1 (tCons (tVar 7) tNil)) (gName 28) tYes (tOp (rI0 fun i j => .int (i - j)) (tOp (rI CMul fun i j => .int (i * j)) (tOp (rIxL K) (tOp (rIxL K) (tVar 8) (tVar 27)) (tVar 28)) (tOp (rIxT K) (tVar 18) (tC (.int 1)))) (tIf (tTest (tOp (rEqQ Int) (tVar 27) (tVar 28))) (tOp (rI CMul fun i j => .int (i * j)) (tOp (rIxT K) (tVar 18) (tC (.int 0))) (tVar 6)) (tC (.int 0)))) [28]) [27]) (gName 25))
  (tAsg (tCall (sp_law_product K T) [] E0 (tCons (tVar 14) (tCons (tVar 25) (tCons (tVar 6) tNil)))) (gName 14))))
  (tSeq (tAsg (tOp (rEqQ (List (List Int))) (tLc (iList K (tVar 14)) (gName 10) (tTest (tOp (rNeQ (List Int)) (tLc (iList K (tVar 10)) (gName 11) (tTest (tOp (rNeQ Int) (tVar 11) (tC (.int 0)))) (tVar 11) [11]) (tLst tNil))) (tVar 10) [10]) (tLst tNil)) (gName 26))
  (tRet (tOp (rEqQ Bool) (tVar 26) (tOp (rEqQ Int) (tVar 24) (tCB (rLenS K) (tCons (tVar 22) tNil))))))))
def t_law_15 (K : PySem.W.Frag) (T : List (Addr × Str)) : TS := (tSeq (tAsg (tLc (iRng1 (tCons (tCall (sp_law_taken K T) [] E0 (tCons (tVar 1) (tCons (tC (.int 4)) tNil))) tNil)) (gName 21) tYes (tCall (sp_law_taken K T) [] E0 (tCons (tVar 1) (tCons (tOp (rI0 fun i j => .int (i + j)) (tVar 2) (tVar 3)) tNil))) [21]) (gName 23))
  (tSeq (tIfS (tNot (tB (tCall (sp_law_alike K T) [] E0 (tCons (tCall (sp_value_of K T) [] E0 (tCons (tVar 2) (tCons (tVar 3) (tCons (tVar 4) (tCons (tVar 23) tNil))))) (tCons (tCall (sp_law_within K T) [] E0 (tCons (tVar 2) (tCons (tVar 3) (tCons (tVar 4) (tCons (tCall (sp_law_support K T) [] E0 (tCons (tVar 2) (tCons (tVar 3) (tCons (tVar 23) tNil)))) tNil))))) tNil))))) (tRet (tC (.bl false))) tNext)
  (tSeq (tAsg (tCall (sp_law_taken K T) [] E0 (tCons (tVar 1) (tCons (tOp (rI0 fun i j => .int (i + j)) (tCB (rLenS K) (tCons (tVar 22) tNil)) (tC (.int 1))) tNil))) (gName 24))
  (t_law_18 K T))))
def t_law_11 (K : PySem.W.Frag) (T : List (Addr × Str)) : TS := (tSeq (tAsg (tCall (sp_least_values K T) [] E0 (tCons (tVar 2) (tCons (tVar 3) (tCons (tVar 4) tNil)))) (gName 22))
  (tSeq (tIfS (tTest (tOp (rNeQ (List (Int × Int))) (tCB (rListS K) (tCons (tVar 22) tNil)) (tLc (iTup K (tVar 13)) (gTup K 2 (gCons (gName 18) (gCons (gName 19) gNil))) tYes (tVar 18) [18, 19]))) (tRet (tC (.bl false))) tNext)
  (tSeq (tIfS (tTest (tOp (rNeQ (List Int)) (tLc (iRng2 (tCons (tC (.int 1)) (tCons (tCB (rLenS K) (tCons (tVar 22) tNil)) tNil))) (gName 27) (tTest (tOp (rI0 fun i j => .bl (decide (j ≤ i))) (tOp (rI CMul fun i j => .int (i * j)) (tOp (rIxT K) (tOp (rIxT K) (tVar 22) (tVar 27)) (tC (.int 0))) (tOp (rIxT K) (tOp (rIxT K) (tVar 22) (tOp (rI0 fun i j => .int (i - j)) (tVar 27) (tC (.int 1)))) (tC (.int 1)))) (tOp (rI CMul fun i j => .int (i * j)) (tOp (rIxT K) (tOp (rIxT K) (tVar 22) (tOp (rI0 fun i j => .int (i - j)) (tVar 27) (tC (.int 1)))) (tC (.int 0))) (tOp (rIxT K) (tOp (rIxT K) (tVar 22) (tVar 27)) (tC (.int 1)))))) (tVar 27) [27]) (tLst tNil))) (tRet (tC (.bl false))) tNext)
  (tSeq (tIfS (tOr (tNot (tB (tCall (sp_law_alike K T) [] E0 (tCons (tCall (sp_second K T) [] E0 (tCons (tVar 2) (tCons (tVar 3) (tCons (tVar 4) tNil)))) (tCons (tIf (tTest (tOp (rI0 fun i j => .bl (decide (j < i))) (tCB (rLenS K) (tCons (tVar 22) tNil)) (tC (.int 1)))) (tOp (rIxT K) (tVar 22) (tC (.int 1))) (tC .non)) tNil))))) (tTest (tOp (rNeQ (Int × Int)) (tOp (rIxT K) (tVar 22) (tC (.int 0))) (tTup (tCons (tC (.int 1)) (tCons (tC (.int 1)) tNil)))))) (tRet (tC (.bl false))) tNext)
  (t_law_15 K T)))))
def t_law_10 (K : PySem.W.Frag) (T : List (Addr × Str)) : TS := (tSeq (tFor (iRng1 (tCons (tC (.int 5)) tNil)) (gName 16)
   (tSeq (tAsg (tTup (tCons (tC (.int 0)) (tCons (tC (.int 1)) tNil))) (gName 17))
  (tSeq (tFor (iTup K (tVar 13)) (gTup K 2 (gCons (gName 18) (gCons (gName 19) gNil)))
   (tSeq (tAsg (tTup (tCons (tVar 19) (tCons (tC (.int 1)) tNil))) (gName 20))
  (tSeq (tFor (iRng1 (tCons (tVar 16) tNil)) (gName 21)
   (tAsg (tCall (sp_law_times K T) [] E0 (tCons (tVar 20) (tCons (tVar 18) tNil))) (gName 20)))
  (tAsg (tCall (sp_law_plus K T) [] E0 (tCons (tVar 17) (tCons (tVar 20) tNil))) (gName 17)))))
  (tSeq (tIfS (tTest (tOp (rNeQ (Int × Int)) (tVar 17) (tCall (sp_law_share K T) [] E0 (tCons (tCB (rSum K) (tCons (tLc (iRng1 (tCons (tVar 7) tNil)) (gName 27) tYes (tOp (rIxL K) (tOp (rIxL K) (tVar 14) (tVar 27)) (tVar 27)) [27]) tNil)) (tCons (tVar 15) tNil))))) (tRet (tC (.bl false))) tNext)
  (tSeq (tIfS (tNot (tB (tCall (sp_law_alike K T) [] E0 (tCons (tCall (sp_trace K T) [] E0 (tCons (tVar 2) (tCons (tVar 3) (tCons (tVar 4) (tCons (tVar 16) tNil))))) (tCons (tVar 17) tNil))))) (tRet (tC (.bl false))) tNext)
  (tAsg (tTup (tCons (tCall (sp_law_product K T) [] E0 (tCons (tVar 14) (tCons (tVar 8) (tCons (tVar 6) tNil)))) (tCons (tOp (rI CMul fun i j => .int (i * j)) (tVar 15) (tVar 6)) tNil))) (gTup K 2 (gCons (gName 14) (gCons (gName 15) gNil)))))))))
  (t_law_11 K T))
def t_law_6 (K : PySem.W.Frag) (T : List (Addr × Str)) : TS := (tSeq (tAsg (tCall (sp_own_values K T) [] E0 (tCons (tVar 2) (tCons (tVar 3) (tCons (tVar 4) tNil)))) (gName 13))
  (tSeq (tIfS (tTest (tOp (rNeQ Int) (tCB (rSum K) (tCons (tLc (iTup K (tVar 13)) (gTup K 2 (gCons (gName 18) (gCons (gName 19) gNil))) tYes (tVar 19) [18, 19]) tNil)) (tVar 7))) (tRet (tC (.bl false))) tNext)
  (tSeq (tIfS (tTest (tOp (rNeQ (List (Int × Int))) (tLc (iTup K (tVar 13)) (gTup K 2 (gCons (gName 18) (gCons (gName 19) gNil))) tYes (tVar 18) [18, 19]) (tLc (iTup K (tVar 13)) (gTup K 2 (gCons (gName 18) (gCons (gName 19) gNil))) (tTest (tOp (rI0 fun i j => .bl (decide (j < i))) (tVar 19) (tC (.int 0)))) (tVar 18) [18, 19]))) (tRet (tC (.bl false))) tNext)
  (tSeq (tAsg (tTup (tCons (tLc (iRng1 (tCons (tVar 7) tNil)) (gName 27) tYes (tLc (iRng1 (tCons (tVar 7) tNil)) (gName 28) tYes (tCB rInt1 (tCons (tOp (rEqQ Int) (tVar 27) (tVar 28)) tNil)) [28]) [27]) (tCons (tC (.int 1)) tNil))) (gTup K 2 (gCons (gName 14) (gCons (gName 15) gNil))))
  (t_law_10 K T)))))
abbrev n_law : List Str := ["_law_script", "_law_row", "_law_high", "_law_wide", "_law_told", "_law_starts_here", "_law_whole_here", "_law_size", "_law_steps", "_law_here", "_law_line", "_law_one", "_law_weight", "_law_values", "_law_now", "_law_count", "_law_many", "_law_sums", "_law_value", "_law_times_here", "_law_part", "_law_step", "_law_least", "_law_lines", "_law_gone", "_law_factor", "_law_zero", "_law_at", "_law_spot"]
theorem sc_law : FnScope n_law ["_law_script"] (defScope s_law) := ⟨rfl, rfl, rfl, by decide +kernel, rfl, by decide +kernel, by decide +kernel⟩
def t_law (K : PySem.W.Frag) (T : List (Addr × Str)) : TS := (tSeq (tAsg (tLst (tCons (tVar 0) (tCons (tC (.int 0)) (tCons (tC (.int 5704)) (tCons (tC (.int 0)) tNil))))) (gName 1))
  (tSeq (tAsg (tCall (sp_law_board K T) [] E0 (tCons (tVar 1) tNil)) (gTup K 2 (gCons (gName 2) (gCons (gName 3) gNil))))
  (tSeq (tAsg (tCall (sp_law_measure K T) [] E0 (tCons (tVar 2) (tCons (tVar 3) (tCons (tCall (sp_law_throws K T) [] E0 (tCons (tVar 1) (tCons (tVar 2) (tCons (tVar 3) (tCons (tC (.int 5)) tNil))))) tNil)))) (gName 4))
  (tSeq (tAsg (tTup (tCons (tCall (sp_law_starts K T) [] E0 (tCons (tVar 2) (tCons (tVar 3) tNil))) (tCons (tCall (sp_law_whole K T) [] E0 (tCons (tVar 4) tNil)) tNil))) (gTup K 2 (gCons (gName 5) (gCons (gName 6) gNil))))
  (tSeq (tAsg (tTup (tCons (tCB (rLenS K) (tCons (tVar 5) tNil)) (tCons (tLst tNil) tNil))) (gTup K 2 (gCons (gName 7) (gCons (gName 8) gNil))))
  (tSeq (tFor (iList K (tVar 5)) (gName 9)
   (tSeq (tAsg (tOp rRep (tLst (tCons (tC (.int 0)) tNil)) (tVar 7)) (gName 10))
  (tSeq (tFor (iTup K (tVar 4)) (gTup K 2 (gCons (gName 11) (gCons (gName 12) gNil)))
   (tAugS (tVar 10) (tBM K "list" (rIdxQ (Tup Str)) (tVar 5) (tCons (tCall (sp_law_strokes K T) [] E0 (tCons (tVar 9) (tCons (tVar 11) tNil))) tNil)) (tVar 12) rGetL (ipI fun i j => i + j) rSetL))
  (tDrop (tBM K "list" rAppend (tVar 8) (tCons (tVar 10) tNil))))))
  (t_law_6 K T)))))))
theorem der_law {k : Nat} {f : Addr} {cdv : Value} {A : Around} {outer : List Env} {s : Shared} {H : Hp} {E : XK} (F : Fx mg) (C_law_board : Cal P w K mg base k "_law_board" ["_law_row"] (sp_law_board K T)) (C_law_throws : Cal P w K mg base k "_law_throws" ["_law_row", "_law_high", "_law_wide", "_law_most"] (sp_law_throws K T)) (C_law_measure : Cal P w K mg base k "_law_measure" ["_law_high", "_law_wide", "_law_throws_here"] (sp_law_measure K T)) (C_law_starts : Cal P w K mg base k "_law_starts" ["_law_high", "_law_wide"] (sp_law_starts K T)) (C_law_whole : Cal P w K mg base k "_law_whole" ["_law_told"] (sp_law_whole K T)) (C_law_strokes : Cal P w K mg base k "_law_strokes" ["_law_picture", "_law_lines"] (sp_law_strokes K T)) (C_own_values : Cal P w K mg base k "own_values" ["rows", "columns", "told"] (sp_own_values K T)) (C_law_times : Cal P w K mg base k "_law_times" ["_law_one", "_law_other"] (sp_law_times K T)) (C_law_plus : Cal P w K mg base k "_law_plus" ["_law_one", "_law_other"] (sp_law_plus K T)) (C_law_share : Cal P w K mg base k "_law_share" ["_law_above", "_law_low"] (sp_law_share K T)) (C_trace : Cal P w K mg base k "trace" ["rows", "columns", "told", "many"] (sp_trace K T)) (C_law_alike : Cal P w K mg base k "_law_alike" ["_law_found", "_law_due"] (sp_law_alike K T)) (C_law_product : Cal P w K mg base k "_law_product" ["_law_one", "_law_other", "_law_whole_here"] (sp_law_product K T)) (C_least_values : Cal P w K mg base k "least_values" ["rows", "columns", "told"] (sp_least_values K T)) (C_second : Cal P w K mg base k "second" ["rows", "columns", "told"] (sp_second K T)) (C_law_taken : Cal P w K mg base k "_law_taken" ["_law_row", "_law_many"] (sp_law_taken K T)) (C_law_support : Cal P w K mg base k "_law_support" ["_law_high", "_law_wide", "_law_lines"] (sp_law_support K T)) (C_law_within : Cal P w K mg base k "_law_within" ["_law_high", "_law_wide", "_law_told", "_law_lines"] (sp_law_within K T)) (C_value_of : Cal P w K mg base k "value_of" ["rows", "columns", "told", "strokes"] (sp_value_of K T)) (hr : Room k (A.deeper (envOfC "law" (defScope s_law) s.heap.objs.size f cdv))) :
    PSs (cxOf CX0 P w K mg base n_law "law" (defScope s_law) f cdv A outer s H E).nox (defBody s_law) (t_law K T) :=
  (pss_cons (ps_set (i := 1) sc_law.nd rfl (.inr rfl) (pe_lst (pa_cons (pv 0) (pa_cons pe_int (pa_cons pe_int (pa_cons pe_int pa_nil))))))
  (pss_cons (ps_asg (pe_cal C_law_board hr (by rfl) (pa_cons (pv 1) pa_nil)) (pg_tup rfl (pgs_cons (pg_name (i := 2) sc_law.nd rfl (.inr rfl)) (pgs_cons (pg_name (i := 3) sc_law.nd rfl (.inr rfl)) pgs_nil))))
  (pss_cons (ps_set (i := 4) sc_law.nd rfl (.inl rfl) (pe_cal C_law_measure hr (by rfl) (pa_cons (pv 2) (pa_cons (pv 3) (pa_cons (pe_cal C_law_throws hr (by rfl) (pa_cons (pv 1) (pa_cons (pv 2) (pa_cons (pv 3) (pa_cons pe_int pa_nil))))) pa_nil)))))
  (pss_cons (ps_asg (pe_tup (pa_cons (pe_cal C_law_starts hr (by rfl) (pa_cons (pv 2) (pa_cons (pv 3) pa_nil))) (pa_cons (pe_cal C_law_whole hr (by rfl) (pa_cons (pv 4) pa_nil)) pa_nil))) (pg_tup rfl (pgs_cons (pg_name (i := 5) sc_law.nd rfl (.inl rfl)) (pgs_cons (pg_name (i := 6) sc_law.nd rfl (.inr rfl)) pgs_nil))))
  (pss_cons (ps_asg (pe_tup (pa_cons (pe_callB call_len_seq (by rfl) F.b_len (by decide +kernel) (pa_cons (pv 5) pa_nil)) (pa_cons (pe_lst pa_nil) pa_nil))) (pg_tup rfl (pgs_cons (pg_name (i := 7) sc_law.nd rfl (.inr rfl)) (pgs_cons (pg_name (i := 8) sc_law.nd rfl (.inr rfl)) pgs_nil))))
  (pss_cons (ps_for PassesOwn.never rfl (pi_list (pv 5)) (pg_name (i := 9) sc_law.nd rfl (.inl rfl))
   (pss_cons (ps_set (i := 10) sc_law.nd rfl (.inl rfl) (pe_op op_rep (pe_lst (pa_cons pe_int pa_nil)) (pv 7)))
  (pss_cons (ps_for PassesOwn.never rfl (pi_tup (pv 4)) (pg_tup rfl (pgs_cons (pg_name (i := 11) sc_law.nd rfl (.inl rfl)) (pgs_cons (pg_name (i := 12) sc_law.nd rfl (.inl rfl)) pgs_nil)))
   (pss_one (ps_augS (pv 10) (pe_bm PySem.F.plainAttrs_list PySem.F.slot_list_index PySem.F.type_list_index (mt_idxQ (hu66 hr)) (pv 5) (pa_cons (pe_cal C_law_strokes hr (by rfl) (pa_cons (pv 9) (pa_cons (pv 11) pa_nil))) pa_nil)) get_list (pv 12) ip_add set_list)))
  (pss_one (ps_expr (pe_bm PySem.F.plainAttrs_list PySem.F.slot_list_append PySem.F.type_list_append mt_append (pv 8) (pa_cons (pv 10) pa_nil)))))))
  (pss_cons (ps_set (i := 13) sc_law.nd rfl (.inl rfl) (pe_cal C_own_values hr (by rfl) (pa_cons (pv 2) (pa_cons (pv 3) (pa_cons (pv 4) pa_nil)))))
  (pss_cons (ps_if (pt_cmpR (op_neQ hr.units) (pe_callB (cr_sum rfl) (by rfl) F.b_sum (by decide +kernel) (pa_cons (pe_lc (own := [("_law_value", 18), ("_law_times_here", 19)]) (g := (gTup K 2 (gCons (gName 18) (gCons (gName 19) gNil)))) (tt := tYes) rfl sc_law.nd (pi_tup (pv 13)) (blkOk_by (own := [("_law_value", 18), ("_law_times_here", 19)]) (N := n_law) (sc := defScope s_law) (by decide +kernel)) (fun _ _ _ _ _ => (pg_tup rfl (pgs_cons (pg_name (i := 18) sc_law.nd rfl (.inl rfl)) (pgs_cons (pg_name (i := 19) sc_law.nd rfl (.inl rfl)) pgs_nil)))) (fun _ _ _ _ _ => pts_nil) (fun _ _ _ _ _ => (pv 19))) pa_nil)) (pv 7) (nomark _)) (pss_one (ps_ret pe_bl)) pss_nil)
  (pss_cons (ps_if (pt_cmpR (op_neQ hr.units) (pe_lc (own := [("_law_value", 18), ("_law_times_here", 19)]) (g := (gTup K 2 (gCons (gName 18) (gCons (gName 19) gNil)))) (tt := tYes) rfl sc_law.nd (pi_tup (pv 13)) (blkOk_by (own := [("_law_value", 18), ("_law_times_here", 19)]) (N := n_law) (sc := defScope s_law) (by decide +kernel)) (fun _ _ _ _ _ => (pg_tup rfl (pgs_cons (pg_name (i := 18) sc_law.nd rfl (.inl rfl)) (pgs_cons (pg_name (i := 19) sc_law.nd rfl (.inl rfl)) pgs_nil)))) (fun _ _ _ _ _ => pts_nil) (fun _ _ _ _ _ => (pv 18))) (pe_lc (own := [("_law_value", 18), ("_law_times_here", 19)]) (g := (gTup K 2 (gCons (gName 18) (gCons (gName 19) gNil)))) (tt := (tTest (tOp (rI0 fun i j => .bl (decide (j < i))) (tVar 19) (tC (.int 0))))) rfl sc_law.nd (pi_tup (pv 13)) (blkOk_by (own := [("_law_value", 18), ("_law_times_here", 19)]) (N := n_law) (sc := defScope s_law) (by decide +kernel)) (fun _ _ _ _ _ => (pg_tup rfl (pgs_cons (pg_name (i := 18) sc_law.nd rfl (.inl rfl)) (pgs_cons (pg_name (i := 19) sc_law.nd rfl (.inl rfl)) pgs_nil)))) (fun _ _ _ _ _ => (pts_one (pt_cmpR (op_gt) (pv 19) pe_int (nomark _)))) (fun _ _ _ _ _ => (pv 18))) (nomark _)) (pss_one (ps_ret pe_bl)) pss_nil)
  (pss_cons (ps_asg (pe_tup (pa_cons (pe_lc (own := [("_law_at", 27)]) (g := (gName 27)) (tt := tYes) rfl sc_law.nd (pi_range1 (by rfl) F.b_range (pa_cons (pv 7) pa_nil)) (blkOk_by (own := [("_law_at", 27)]) (N := n_law) (sc := defScope s_law) (by decide +kernel)) (fun _ _ _ _ _ => (pg_name (i := 27) sc_law.nd rfl (.inr rfl))) (fun _ _ _ _ _ => pts_nil) (fun _ _ _ _ _ => (pe_lc (own := [("_law_spot", 28)]) (g := (gName 28)) (tt := tYes) rfl sc_law.nd (pi_range1 (by rfl) F.b_range (pa_cons (pv 7) pa_nil)) (blkOk_by (own := [("_law_spot", 28)]) (N := n_law) (by rfl)) (fun _ _ _ _ _ => (pg_name (i := 28) sc_law.nd rfl (.inl rfl))) (fun _ _ _ _ _ => pts_nil) (fun _ _ _ _ _ => (pe_callTy call_int1 (by rfl) F.b_int (by decide +kernel) (pa_cons (pe_cmpR (op_eqQ hr.units) (pv 27) (pv 28) (nomark _)) pa_nil)))))) (pa_cons pe_int pa_nil))) (pg_tup rfl (pgs_cons (pg_name (i := 14) sc_law.nd rfl (.inr rfl)) (pgs_cons (pg_name (i := 15) sc_law.nd rfl (.inl rfl)) pgs_nil))))
  (pss_cons (ps_for PassesOwn.never rfl (pi_range1 (by rfl) F.b_range (pa_cons pe_int pa_nil)) (pg_name (i := 16) sc_law.nd rfl (.inl rfl))
   (pss_cons (ps_set (i := 17) sc_law.nd rfl (.inl rfl) (pe_tup (pa_cons pe_int (pa_cons pe_int pa_nil))))
  (pss_cons (ps_for PassesOwn.never rfl (pi_tup (pv 13)) (pg_tup rfl (pgs_cons (pg_name (i := 18) sc_law.nd rfl (.inr rfl)) (pgs_cons (pg_name (i := 19) sc_law.nd rfl (.inl rfl)) pgs_nil)))
   (pss_cons (ps_set (i := 20) sc_law.nd rfl (.inl rfl) (pe_tup (pa_cons (pv 19) (pa_cons pe_int pa_nil))))
  (pss_cons (ps_for PassesOwn.never rfl (pi_range1 (by rfl) F.b_range (pa_cons (pv 16) pa_nil)) (pg_name (i := 21) sc_law.nd rfl (.inl rfl))
   (pss_one (ps_set (i := 20) sc_law.nd rfl (.inl rfl) (pe_cal C_law_times hr (by rfl) (pa_cons (pv 20) (pa_cons (pv 18) pa_nil))))))
  (pss_one (ps_set (i := 17) sc_law.nd rfl (.inl rfl) (pe_cal C_law_plus hr (by rfl) (pa_cons (pv 17) (pa_cons (pv 20) pa_nil))))))))
  (pss_cons (ps_if (pt_cmpR (op_neQ hr.units) (pv 17) (pe_cal C_law_share hr (by rfl) (pa_cons (pe_callB (cr_sum rfl) (by rfl) F.b_sum (by decide +kernel) (pa_cons (pe_lc (own := [("_law_at", 27)]) (g := (gName 27)) (tt := tYes) rfl sc_law.nd (pi_range1 (by rfl) F.b_range (pa_cons (pv 7) pa_nil)) (blkOk_by (own := [("_law_at", 27)]) (N := n_law) (sc := defScope s_law) (by decide +kernel)) (fun _ _ _ _ _ => (pg_name (i := 27) sc_law.nd rfl (.inl rfl))) (fun _ _ _ _ _ => pts_nil) (fun _ _ _ _ _ => (pe_ix ix_list (pe_ix ix_list (pv 14) (pv 27) (fun _ _ => rfl)) (pv 27) (fun _ _ => rfl)))) pa_nil)) (pa_cons (pv 15) pa_nil))) (nomark _)) (pss_one (ps_ret pe_bl)) pss_nil)
  (pss_cons (ps_if (pt_not (pt_val (pe_cal C_law_alike hr (by rfl) (pa_cons (pe_cal C_trace hr (by rfl) (pa_cons (pv 2) (pa_cons (pv 3) (pa_cons (pv 4) (pa_cons (pv 16) pa_nil))))) (pa_cons (pv 17) pa_nil))))) (pss_one (ps_ret pe_bl)) pss_nil)
  (pss_one (ps_asg (pe_tup (pa_cons (pe_cal C_law_product hr (by rfl) (pa_cons (pv 14) (pa_cons (pv 8) (pa_cons (pv 6) pa_nil)))) (pa_cons (pe_op op_mul (pv 15) (pv 6)) pa_nil))) (pg_tup rfl (pgs_cons (pg_name (i := 14) sc_law.nd rfl (.inr rfl)) (pgs_cons (pg_name (i := 15) sc_law.nd rfl (.inl rfl)) pgs_nil))))))))))
  (pss_cons (ps_set (i := 22) sc_law.nd rfl (.inr rfl) (pe_cal C_least_values hr (by rfl) (pa_cons (pv 2) (pa_cons (pv 3) (pa_cons (pv 4) pa_nil)))))
  (pss_cons (ps_if (pt_cmpR (op_neQ hr.units) (pe_callTy call_list_of (by rfl) F.b_list (by decide +kernel) (pa_cons (pv 22) pa_nil)) (pe_lc (own := [("_law_value", 18), ("_law_times_here", 19)]) (g := (gTup K 2 (gCons (gName 18) (gCons (gName 19) gNil)))) (tt := tYes) rfl sc_law.nd (pi_tup (pv 13)) (blkOk_by (own := [("_law_value", 18), ("_law_times_here", 19)]) (N := n_law) (sc := defScope s_law) (by decide +kernel)) (fun _ _ _ _ _ => (pg_tup rfl (pgs_cons (pg_name (i := 18) sc_law.nd rfl (.inl rfl)) (pgs_cons (pg_name (i := 19) sc_law.nd rfl (.inl rfl)) pgs_nil)))) (fun _ _ _ _ _ => pts_nil) (fun _ _ _ _ _ => (pv 18))) (nomark _)) (pss_one (ps_ret pe_bl)) pss_nil)
  (pss_cons (ps_if (pt_cmpR (op_neQ hr.units) (pe_lc (own := [("_law_at", 27)]) (g := (gName 27)) (tt := (tTest (tOp (rI0 fun i j => .bl (decide (j ≤ i))) (tOp (rI CMul fun i j => .int (i * j)) (tOp (rIxT K) (tOp (rIxT K) (tVar 22) (tVar 27)) (tC (.int 0))) (tOp (rIxT K) (tOp (rIxT K) (tVar 22) (tOp (rI0 fun i j => .int (i - j)) (tVar 27) (tC (.int 1)))) (tC (.int 1)))) (tOp (rI CMul fun i j => .int (i * j)) (tOp (rIxT K) (tOp (rIxT K) (tVar 22) (tOp (rI0 fun i j => .int (i - j)) (tVar 27) (tC (.int 1)))) (tC (.int 0))) (tOp (rIxT K) (tOp (rIxT K) (tVar 22) (tVar 27)) (tC (.int 1))))))) rfl sc_law.nd (pi_range2 (by rfl) F.b_range (pa_cons pe_int (pa_cons (pe_callB call_len_seq (by rfl) F.b_len (by decide +kernel) (pa_cons (pv 22) pa_nil)) pa_nil))) (blkOk_by (own := [("_law_at", 27)]) (N := n_law) (sc := defScope s_law) (by decide +kernel)) (fun _ _ _ _ _ => (pg_name (i := 27) sc_law.nd rfl (.inl rfl))) (fun _ _ _ _ _ => (pts_one (pt_cmpR (op_ge) (pe_op op_mul (pe_ix ix_tup (pe_ix ix_tup (pv 22) (pv 27) (fun _ _ => rfl)) pe_int (fun _ _ => rfl)) (pe_ix ix_tup (pe_ix ix_tup (pv 22) (pe_op op_sub (pv 27) pe_int) (fun _ _ => rfl)) pe_int (fun _ _ => rfl))) (pe_op op_mul (pe_ix ix_tup (pe_ix ix_tup (pv 22) (pe_op op_sub (pv 27) pe_int) (fun _ _ => rfl)) pe_int (fun _ _ => rfl)) (pe_ix ix_tup (pe_ix ix_tup (pv 22) (pv 27) (fun _ _ => rfl)) pe_int (fun _ _ => rfl))) (nomark _)))) (fun _ _ _ _ _ => (pv 27))) (pe_lst pa_nil) (nomark _)) (pss_one (ps_ret pe_bl)) pss_nil)
  (pss_cons (ps_if (PW.pt (pw_or (pt_not (pt_val (pe_cal C_law_alike hr (by rfl) (pa_cons (pe_cal C_second hr (by rfl) (pa_cons (pv 2) (pa_cons (pv 3) (pa_cons (pv 4) pa_nil)))) (pa_cons (pe_ifExp (pt_cmpR (op_gt) (pe_callB call_len_seq (by rfl) F.b_len (by decide +kernel) (pa_cons (pv 22) pa_nil)) pe_int (nomark _)) (pe_ix ix_tup (pv 22) pe_int (fun _ _ => rfl)) pe_non) pa_nil))))) (pw_or1 (pt_cmpR (op_neQ hr.units) (pe_ix ix_tup (pv 22) pe_int (fun _ _ => rfl)) (pe_tup (pa_cons pe_int (pa_cons pe_int pa_nil))) (nomark _))))) (pss_one (ps_ret pe_bl)) pss_nil)
  (pss_cons (ps_setLc (i := 23) (own := [("_law_step", 21)]) (g := (gName 21)) (tt := tYes) rfl sc_law.nd rfl rfl (sw_true rfl rfl rfl (by decide +kernel)) (pi_range1 (by rfl) F.b_range (pa_cons (pe_cal C_law_taken hr (by rfl) (pa_cons (pv 1) (pa_cons pe_int pa_nil))) pa_nil)) (blkOk_by (own := [("_law_step", 21)]) (N := n_law) (sc := defScope s_law) (by decide +kernel)) (fun _ _ _ _ _ => (pg_name (i := 21) sc_law.nd rfl (.inl rfl))) (fun _ _ _ _ _ => pts_nil) (fun _ _ _ _ _ => (pe_cal C_law_taken hr (by rfl) (pa_cons (pv 1) (pa_cons (pe_op op_add (pv 2) (pv 3)) pa_nil)))))
  (pss_cons (ps_if (pt_not (pt_val (pe_cal C_law_alike hr (by rfl) (pa_cons (pe_cal C_value_of hr (by rfl) (pa_cons (pv 2) (pa_cons (pv 3) (pa_cons (pv 4) (pa_cons (pv 23) pa_nil))))) (pa_cons (pe_cal C_law_within hr (by rfl) (pa_cons (pv 2) (pa_cons (pv 3) (pa_cons (pv 4) (pa_cons (pe_cal C_law_support hr (by rfl) (pa_cons (pv 2) (pa_cons (pv 3) (pa_cons (pv 23) pa_nil)))) pa_nil))))) pa_nil))))) (pss_one (ps_ret pe_bl)) pss_nil)
  (pss_cons (ps_set (i := 24) sc_law.nd rfl (.inl rfl) (pe_cal C_law_taken hr (by rfl) (pa_cons (pv 1) (pa_cons (pe_op op_add (pe_callB call_len_seq (by rfl) F.b_len (by decide +kernel) (pa_cons (pv 22) pa_nil)) pe_int) pa_nil))))
  (pss_cons (ps_set (i := 14) sc_law.nd rfl (.inr rfl) (pe_lc (own := [("_law_at", 27)]) (g := (gName 27)) (tt := tYes) rfl sc_law.nd (pi_range1 (by rfl) F.b_range (pa_cons (pv 7) pa_nil)) (blkOk_by (own := [("_law_at", 27)]) (N := n_law) (sc := defScope s_law) (by decide +kernel)) (fun _ _ _ _ _ => (pg_name (i := 27) sc_law.nd rfl (.inr rfl))) (fun _ _ _ _ _ => pts_nil) (fun _ _ _ _ _ => (pe_lc (own := [("_law_spot", 28)]) (g := (gName 28)) (tt := tYes) rfl sc_law.nd (pi_range1 (by rfl) F.b_range (pa_cons (pv 7) pa_nil)) (blkOk_by (own := [("_law_spot", 28)]) (N := n_law) (by rfl)) (fun _ _ _ _ _ => (pg_name (i := 28) sc_law.nd rfl (.inl rfl))) (fun _ _ _ _ _ => pts_nil) (fun _ _ _ _ _ => (pe_callTy call_int1 (by rfl) F.b_int (by decide +kernel) (pa_cons (pe_cmpR (op_eqQ hr.units) (pv 27) (pv 28) (nomark _)) pa_nil)))))))
  (pss_cons (ps_for PassesOwn.never rfl (pi_tup (pe_op op_catA (pe_slice sl_tupA (pv 22) po_none (po_some (pv 24))) (pe_slice sl_tupA (pv 22) (po_some (pe_op op_add (pv 24) pe_int)) po_none))) (pg_name (i := 18) sc_law.nd rfl (.inr rfl))
   (pss_cons (ps_setLc (i := 25) (own := [("_law_at", 27)]) (g := (gName 27)) (tt := tYes) rfl sc_law.nd rfl rfl (sw_true rfl rfl rfl (by decide +kernel)) (pi_range1 (by rfl) F.b_range (pa_cons (pv 7) pa_nil)) (blkOk_by (own := [("_law_at", 27)]) (N := n_law) (sc := defScope s_law) (by decide +kernel)) (fun _ _ _ _ _ => (pg_name (i := 27) sc_law.nd rfl (.inr rfl))) (fun _ _ _ _ _ => pts_nil) (fun _ _ _ _ _ => (pe_lc (own := [("_law_spot", 28)]) (g := (gName 28)) (tt := tYes) rfl sc_law.nd (pi_range1 (by rfl) F.b_range (pa_cons (pv 7) pa_nil)) (blkOk_by (own := [("_law_spot", 28)]) (N := n_law) (by rfl)) (fun _ _ _ _ _ => (pg_name (i := 28) sc_law.nd rfl (.inl rfl))) (fun _ _ _ _ _ => pts_nil) (fun _ _ _ _ _ => (pe_op op_sub (pe_op op_mul (pe_ix ix_list (pe_ix ix_list (pv 8) (pv 27) (fun _ _ => rfl)) (pv 28) (fun _ _ => rfl)) (pe_ix ix_tup (pv 18) pe_int (fun _ _ => rfl))) (pe_ifExp (pt_cmpR (op_eqQ hr.units) (pv 27) (pv 28) (nomark _)) (pe_op op_mul (pe_ix ix_tup (pv 18) pe_int (fun _ _ => rfl)) (pv 6)) pe_int))))))
  (pss_one (ps_set (i := 14) sc_law.nd rfl (.inr rfl) (pe_cal C_law_product hr (by rfl) (pa_cons (pv 14) (pa_cons (pv 25) (pa_cons (pv 6) pa_nil))))))))
  (pss_cons (ps_set (i := 26) sc_law.nd rfl (.inl rfl) (pe_cmpR (op_eqQ hr.units) (pe_lc (own := [("_law_line", 10)]) (g := (gName 10)) (tt := (tTest (tOp (rNeQ (List Int)) (tLc (iList K (tVar 10)) (gName 11) (tTest (tOp (rNeQ Int) (tVar 11) (tC (.int 0)))) (tVar 11) [11]) (tLst tNil)))) rfl sc_law.nd (pi_list (pv 14)) (blkOk_by (own := [("_law_line", 10)]) (N := n_law) (sc := defScope s_law) (by decide +kernel)) (fun _ _ _ _ _ => (pg_name (i := 10) sc_law.nd rfl (.inl rfl))) (fun _ _ _ _ _ => (pts_one (pt_cmpR (op_neQ hr.units) (pe_lc (own := [("_law_one", 11)]) (g := (gName 11)) (tt := (tTest (tOp (rNeQ Int) (tVar 11) (tC (.int 0))))) rfl sc_law.nd (pi_list (pv 10)) (blkOk_by (own := [("_law_one", 11)]) (N := n_law) (by rfl)) (fun _ _ _ _ _ => (pg_name (i := 11) sc_law.nd rfl (.inl rfl))) (fun _ _ _ _ _ => (pts_one (pt_cmpR (op_neQ hr.units) (pv 11) pe_int (nomark _)))) (fun _ _ _ _ _ => (pv 11))) (pe_lst pa_nil) (nomark _)))) (fun _ _ _ _ _ => (pv 10))) (pe_lst pa_nil) (nomark _)))
  (pss_one (ps_ret (pe_cmpR (op_eqQ hr.units) (pv 26) (pe_cmpR (op_eqQ hr.units) (pv 24) (pe_callB call_len_seq (by rfl) F.b_len (by decide +kernel) (pa_cons (pv 22) pa_nil)) (nomark _)) (nomark _)))))))))))))))))))))))))
end K4
end
section
set_option Elab.async false
set_option linter.all false
set_option maxRecDepth 100000
set_option maxHeartbeats 4000000
namespace K4
open PySem PySem.Spec PyProof.Rows L2 PySem.W
variable {P : Program} {w : World} {K : PySem.W.Frag} {mg : Str → Option Value} {base : Heap} {T : List (Addr × Str)}

variable {a0 a1 a2 a3 a4 a5 a6 a7 a8 a9 a10 a11 a12 a13 a14 a15 a16 a17 a18 a19 a20 a21 a22 a23 a24 a25 a26 a27 a28 : Option V}
theorem en_id {G : Hp} {n : Nat} (hn : n ≤ 1000) : EvN T (tLc (iRng1 (tCons (tVar 7) tNil)) (gName 27) tYes (tLc (iRng1 (tCons (tVar 7) tNil)) (gName 28) tYes (tCB rInt1 (tCons (tOp (rEqQ Int) (tVar 27) (tVar 28)) tNil)) [28]) [27]) [a0, a1, a2, a3, a4, a5, a6, some (.int (n : Int)), a8, a9, a10, a11, a12, a13, a14, a15, a16, a17, a18, a19, a20, a21, a22, a23, a24, a25, a26, a27, a28] G (mId n) :=
  en_map (fun i => (rng 0 n).map fun j => if decide (i = j) = true then (1 : Int) else 0) (sr_r1 (n := (n : Int)) (ev_var rfl rep_int) (by omega) (by omega)) tgm_name (by rw [rng_len]; omega) fun i hi v1 S1 H1 s1 ri => ⟨rfl, rfl, (en_map (fun j => if decide (i = j) = true then (1 : Int) else 0) (sr_r1 (n := (n : Int)) (ev_var rfl rep_int) (by omega) (by omega)) tgm_name (by rw [rng_len]; omega) fun j hj v2 S2 H2 s2 rj => ⟨rfl, rfl, ev_intB (ev_eq (ev_var rfl (ri.le s2.le)) (ev_var rfl rj))⟩).r⟩
/-- what the last product asks -/
structure OkF (n : Nat) (st : Mat) (W : Int) (l : List (Int × Int)) : Prop where
  n1 : n ≤ 16
  sl : st.length = n
  sr : ∀ row ∈ st, row.length = n
  b : ∀ v ∈ l, 0 ≤ v.2 ∧ v.2 ≤ 64
  w : 0 ≤ W ∧ W ≤ 64
  p : ∀ i v, l[i]? = some v → okProd (mNow st n W (l.take i)) (mFac st n v W)
theorem now_len (st : Mat) (n : Nat) (W : Int) : ∀ (l : List (Int × Int)) (N : Mat), N.length = n → (l.foldl (fun N v => mProd N (mFac st n v W)) N).length = n
  | [], N, h => h
  | v :: l, N, h => now_len st n W l _ (by unfold mProd; rw [List.length_map, rng_len]; omega)
theorem en_fac {G : Hp} {n : Nat} {st : Mat} {W : Int} {v : Int × Int} {v8 v18 : V} (n1 : n ≤ 16) (sl : st.length = n) (sr : ∀ row ∈ st, row.length = n) (hb : 0 ≤ v.2 ∧ v.2 ≤ 64) (hw : 0 ≤ W ∧ W ≤ 64) (r8 : Rep G v8 st) (r18 : Rep G v18 v) : EvN T (tLc (iRng1 (tCons (tVar 7) tNil)) (gName 27) tYes (tLc (iRng1 (tCons (tVar 7) tNil)) (gName 28) tYes (tOp (rI0 fun i j => .int (i - j)) (tOp (rI CMul fun i j => .int (i * j)) (tOp (rIxL K) (tOp (rIxL K) (tVar 8) (tVar 27)) (tVar 28)) (tOp (rIxT K) (tVar 18) (tC (.int 1)))) (tIf (tTest (tOp (rEqQ Int) (tVar 27) (tVar 28))) (tOp (rI CMul fun i j => .int (i * j)) (tOp (rIxT K) (tVar 18) (tC (.int 0))) (tVar 6)) (tC (.int 0)))) [28]) [27]) [a0, a1, a2, a3, a4, a5, some (.int W), some (.int (n : Int)), some v8, a9, a10, a11, a12, a13, a14, a15, a16, a17, some v18, a19, a20, a21, a22, a23, a24, a25, a26, a27, a28] G (mFac st n v W) :=
  en_map (fun i => (rng 0 n).map fun j => mAt st i j * v.2 - if decide (i = j) = true then v.1 * W else 0) (sr_r1 (n := (n : Int)) (ev_var rfl rep_int) (by omega) (by omega)) tgm_name (by rw [rng_len]; omega) fun i hi v1 S1 H1 s1 ri => ⟨rfl, rfl, (en_map (fun j => mAt st i j * v.2 - if decide (i = j) = true then v.1 * W else 0) (sr_r1 (n := (n : Int)) (ev_var rfl rep_int) (by omega) (by omega)) tgm_name (by rw [rng_len]; omega) fun j hj v2 S2 H2 s2 rj => ⟨rfl, rfl, by
    have i1 := rng_mem hi
    have j1 := rng_mem hj
    have ma := getD_mem (xs := st) (i := i) [] (by omega) (by omega)
    have la := sr _ ma
    have r8' := (r8.le s1.le).le s2.le
    have r18' := (r18.le s1.le).le s2.le
    exact ev_opI0 (g := fun i j => i - j) (ev_opI (g := fun i j => i * j) (ev_ixL (ev_ixL (ev_var rfl r8') (ev_var rfl (ri.le s2.le)) (atI_get [] (by omega) (by omega))) (ev_var rfl rj) (atI_get 0 (by omega) (by omega))) (ev_snd (ev_var rfl r18')) (.inr ⟨by omega, by omega⟩)) (ev_if (et_test (ev_eq (ev_var rfl (ri.le s2.le)) (ev_var rfl rj))) (fun hb => ev_is (ev_opI (g := fun i j => i * j) (ev_fst (ev_var rfl r18')) (ev_var (x := W) rfl rep_int) (.inr ⟨by omega, by omega⟩)) (by rw [if_pos hb])) fun hb => ev_is ev_int (by rw [if_neg (by rw [hb]; decide)]))⟩).r⟩
theorem law_F {S : List Addr} {H : Hp} {Q : VK} {n : Nat} {st : Mat} {ls : List (Int × Int)} {gone W : Int} {v8 v22 : V} (dom : Dom S H) (r8 : Rep (hd S H) v8 st) (r22 : Rep (hd S H) v22 (Tup.mk ls)) (ll : ls.length ≤ 100) (ok : OkF n st W (cut ls none (some gone) ++ cut ls (some (gone + 1)) none)) (hz : isZero (mNow st n W (cut ls none (some gone) ++ cut ls (some (gone + 1)) none)) = decide (gone = (ls.length : Int))) (hQ : ∀ H', Q (.bl true) H') :
    t_law_18 K T { nx := fun _ H' => Q .non H', rt := Q } [a0, a1, a2, a3, a4, a5, some (.int W), some (.int (n : Int)), some v8, a9, a10, a11, a12, a13, a14, a15, a16, a17, a18, a19, a20, a21, some v22, a23, some (.int gone), a25, a26, a27, a28] H := by
  have s0 : Sg T (hd S H) S H := ⟨dom, .same⟩
  obtain ⟨n1, sl, sr, hb, hw, hp⟩ := ok
  refine q_asg s0 (en_id (by omega)).r fun v14 H1 e1 r14 => ?_
  have s1 := s0.go e1
  have l1 := e1.hd dom
  have c1 := cut_len ls none (some gone)
  have c2 := cut_len ls (some (gone + 1)) none
  generalize hl : cut ls none (some gone) ++ cut ls (some (gone + 1)) none = l at *
  have hE : EvR T (tOp (rCatA K) (tSl (rSlA K) (tVar 22) tNoPart (tPart (tVar 24))) (tSl (rSlA K) (tVar 22) (tPart (tOp (rI0 fun i j => .int (i + j)) (tVar 24) (tC (.int 1)))) tNoPart)) [a0, a1, a2, a3, a4, a5, some (.int W), some (.int (n : Int)), some v8, a9, a10, a11, a12, a13, some v14, a15, a16, a17, a18, a19, a20, a21, some v22, a23, some (.int gone), a25, a26, a27, a28] (hd S H1) (Tup.mk l) := by
    rw [← hl]
    exact ev_catT (ev_slT (ev_var rfl (r22.le l1)) ep_none (ep_some (ev_var rfl rep_int))) (ev_slT (ev_var rfl (r22.le l1)) (ep_some (ev_opI0 (g := fun i j => i + j) (ev_var rfl rep_int) ev_int)) ep_none) (by show (cut ls _ _).length + (cut ls _ _).length ≤ _; omega)
  refine q_forT s1.up hE (fun H2 i σ' H' => ∃ x b18 b25, σ' = [a0, a1, a2, a3, a4, a5, some (.int W), some (.int (n : Int)), some v8, a9, a10, a11, a12, a13, some x, a15, a16, a17, b18, a19, a20, a21, some v22, a23, some (.int gone), b25, a26, a27, a28] ∧ Le T H2 H' ∧ Sg T (hd S H2) S H' ∧ Rep (hd S H') x (mNow st n W (l.take i))) (fun H2 e2 => ⟨v14, a18, a25, rfl, .same, ⟨(s1.go e2).dom, .same⟩, r14.le (e2.hd s1.dom)⟩) (fun H2 i σ' H' ⟨_, _, _, _, _, s', _⟩ => ⟨S, s'⟩) ?_ ?_
  · rintro H2 i v vv σ' H' H'' e2 hi ⟨x, b18, b25, rfl, e', s', rx⟩ e3 rv
    have s3 := s'.go e3
    have lA := ((e1.trans e2).trans (e'.trans e3)).hd dom
    have hv := List.mem_of_getElem? hi
    have rv3 : Rep (hd S H'') vv v := rv S s'
    refine q_asg s3.up (en_fac n1 sl sr (hb v hv) hw (r8.le lA) rv3).r fun v25 H4 e4 r25 => ?_
    have s4 := s3.go e4
    have ht : mNow st n W (l.take (i + 1)) = mProd (mNow st n W (l.take i)) (mFac st n v W) := by
      unfold mNow
      rw [List.take_add_one, hi, List.foldl_append] <;> rfl
    refine s_asg s4.up (ev_call3 (ev_var rfl ((rx.le (e3.hd s'.dom)).le (e4.hd s3.dom))) (ev_var rfl r25) (ev_var (x := W) rfl rep_int) (hp i v hi)) fun x5 H5 e5 r5 => ?_
    exact ⟨x5, _, _, rfl, ((e'.trans e3).trans e4).trans e5, s4.go e5, by rw [ht]; exact r5⟩
  · rintro H2 σ' H' e2 ⟨x, b18, b25, rfl, e', s', rx⟩
    rw [List.take_length] at rx
    have hlen : (mNow st n W l).length ≤ 90000 := by
      unfold mNow
      rw [now_len st n W l _ (by unfold mId; rw [List.length_map, rng_len])]
      omega
    have hrow : ∀ row ∈ mNow st n W l, row.length ≤ 90000 := by
      have key : ∀ (l : List (Int × Int)) (N : Mat), N.length = n → (∀ row ∈ N, row.length = n) → ∀ row ∈ l.foldl (fun N v => mProd N (mFac st n v W)) N, row.length = n := by
        intro l
        induction l with
        | nil => exact fun N _ h => h
        | cons v l ih =>
          intro N h1 h2
          refine ih _ (by unfold mProd; rw [List.length_map, rng_len]; omega) fun row hr => ?_
          unfold mProd at hr
          obtain ⟨i, _, rfl⟩ := List.mem_map.mp hr
          rw [List.length_map, rng_len]
          omega
      intro row hr
      have := key l (mId n) (by unfold mId; rw [List.length_map, rng_len]) (fun row hr => by
        unfold mId at hr
        obtain ⟨i, _, rfl⟩ := List.mem_map.mp hr
        rw [List.length_map, rng_len]) row hr
      omega
    refine q_asg s'.up (ev_eq (ev_is (en_lc (fun line : List Int => decide ((line.filter fun x => decide (x ≠ 0)) ≠ [])) (fun line => line) (sr_list (ev_var rfl rx)) tgm_name hlen fun line hl v1 S1 H1 s1 r1 => ⟨rfl, rfl, et_test (ev_ne (ev_is (en_lc (fun x : Int => decide (x ≠ 0)) (fun x => x) (sr_list (ev_var rfl r1)) tgm_name (hrow line hl) fun y hy v2 S2 H2 s2 r2 => ⟨rfl, rfl, et_test (ev_ne (ev_var rfl r2) ev_int), fun _ => ev_var rfl r2⟩).r (by rw [List.map_id'])) (en_lst eas_nil (by decide)).r), fun _ => ev_var rfl r1⟩).r (by rw [List.map_id'])) (en_lst eas_nil (by decide)).r) fun v26 H3 e3 r26 => ?_
    have lB := ((e1.trans e2).trans (e'.trans e3)).hd dom
    refine s_ret (s'.go e3).up (ev_eq (ev_var rfl r26) (ev_eq (ev_var (x := gone) rfl rep_int) (ev_lenT (ev_var rfl (r22.le lB))))) fun y H4 e4 r4 => ?_
    obtain rfl := of_bl r4
    have hz' : decide ((mNow st n W l).filter (fun line : List Int => decide ((line.filter fun x => decide (x ≠ 0)) ≠ [])) = []) = decide (gone = (ls.length : Int)) := hz
    show Q (.bl (decide (decide ((mNow st n W l).filter (fun line : List Int => decide ((line.filter fun x => decide (x ≠ 0)) ≠ [])) = []) = decide (gone = (ls.length : Int))))) H4
    rw [hz', decide_eq_true rfl]
    exact hQ H4
end K4
end
section
set_option Elab.async false
set_option linter.all false
set_option maxRecDepth 100000
set_option maxHeartbeats 4000000
namespace K4
open PySem PySem.Spec PyProof.Rows L2 PySem.W
variable {P : Program} {w : World} {K : PySem.W.Frag} {mg : Str → Option Value} {base : Heap} {T : List (Addr × Str)}

variable {a0 a1 a2 a3 a4 a5 a6 a7 a8 a9 a10 a11 a12 a13 a14 a15 a16 a17 a18 a19 a20 a21 a22 a23 a24 a25 a26 a27 a28 : Option V}
section
variable {α β γ δ : Type} [DecidableEq α] [Datum α] [DecidableEq β] [Datum β] [DecidableEq γ] [Datum γ] [DecidableEq δ] [Datum δ] {σ : L2.St} {S : List Addr} {G G' H H' : Hp} {ta tb tc td : TE} {x : α} {y : β} {z : γ}
theorem ev_call2o {sp : Sp} {P : α → β → Prop} {f : α → β → γ} (hsp : ∀ vs H Q E, Pu2 T P f vs H Q E → sp vs H Q E) (h1 : EvR T ta σ G x) (h2 : EvR T tb σ G y) (p : P x y) : EvR T (tCall sp [] E0 (tCons ta (tCons tb tNil))) σ G (f x y) := fun S H1 s Q q =>
  h1 S H1 s _ fun v H2 e2 r2 => h2 S H2 (s.go e2) _ fun u H3 e3 r3 => hsp _ _ _ _ ⟨S, v, u, x, y, (s.go (e2.trans e3)).dom, rfl, r2.le (e3.hd (s.go e2).dom), r3, p, fun w H4 e4 r4 => q w H4 ((e2.trans e3).trans e4) r4⟩
theorem ev_call3xo {sp : Sp} {P : α → β → γ → Prop} {f : α → β → γ → δ} (hsp : ∀ vs H Q E, Pu3x T P f vs H Q E → sp vs H Q E) (gt : GT T G) (h1 : EvR T ta σ G x) (h2 : EvR T tb σ G y) (h3 : EvX T tc σ G z) (p : P x y z) : EvR T (tCall sp [] E0 (tCons ta (tCons tb (tCons tc tNil)))) σ G (f x y z) := fun S H1 s Q q =>
  h1 S H1 s _ fun v H2 e2 r2 => h2 S H2 (s.go e2) _ fun u H3 e3 r3 => h3 S H3 ((s.go e2).go e3) _ fun w H4 e4 r4 x4 =>
    hsp _ _ _ _ ⟨S, v, u, w, x, y, z, (((s.go e2).go e3).go e4).dom, rfl, (r2.le (e3.hd (s.go e2).dom)).le (e4.hd ((s.go e2).go e3).dom), r3.le (e4.hd ((s.go e2).go e3).dom), r4, x4, p, (((s.go e2).go e3).go e4).tabs gt, fun r H5 e5 r5 => q r H5 (((e2.trans e3).trans e4).trans e5) r5⟩
end
/-- what stays known -/
structure LF (T : List (Addr × Str)) (G : Hp) (vm vy v8 : V) (m : Meas) (ys : List Pic) (st : Mat) : Prop where
  m : Rep G vm m
  x : Ex G vm
  y : Rep G vy ys
  s : Rep G v8 st
  t : GT T G
theorem LF.le {G G' : Hp} {vm vy v8 : V} {m : Meas} {ys : List Pic} {st : Mat} (f : LF T G vm vy v8 m ys st) (e : Le T G G') : LF T G' vm vy v8 m ys st := ⟨f.m.le e, f.x.le e, f.y.le e, f.s.le e, f.t.le e⟩
theorem al_fr {σ : L2.St} {G : Hp} {ta tb : TE} {x y : Int × Int} (ha : EvR T ta σ G x) (hb : EvR T tb σ G y) (h : x = y) : EvR T (tCall (sp_law_alike K T) [] E0 (tCons ta (tCons tb tNil))) σ G true :=
  ev_call2o (f := fun _ _ => true) (P := fun x y : Int × Int => x = y) (fun _ _ _ _ h => .inl h) ha hb h
theorem al_non {σ : L2.St} {G : Hp} {ta tb : TE} (ha : EvR T ta σ G ()) (hb : EvR T tb σ G ()) : EvR T (tCall (sp_law_alike K T) [] E0 (tCons ta (tCons tb tNil))) σ G true :=
  ev_call2o (f := fun _ _ => true) (P := fun x y : Unit => x = y) (fun _ _ _ _ h => .inr h) ha hb rfl
/-- what the draws of the end ask -/
structure OkE (r c : Int) (m : Meas) (n : Nat) (st : Mat) (W : Int) (ls : List (Int × Int)) : Prop where
  b : okB r c
  ok : okMeas r c m
  ll : ls.length ≤ 100
  v : ∀ zs : List Int, zs.length ≤ 3 → (∀ z ∈ zs, 0 ≤ z ∧ z < r + c) → mStrokes r c zs = true ∧ okWithin r c m (mSupport r c zs).items ∧ mWithin r c m (mSupport r c zs).items = mLWithin r c m (mSupport r c zs)
  f : ∀ gone : Int, 0 ≤ gone → gone ≤ ls.length → OkF n st W (cut ls none (some gone) ++ cut ls (some (gone + 1)) none) ∧ isZero (mNow st n W (cut ls none (some gone) ++ cut ls (some (gone + 1)) none)) = decide (gone = (ls.length : Int))
theorem law_E {H G H0 : Hp} {p sc : Addr} {xs : List Int} {Q : VK} {r c W : Int} {n : Nat} {m : Meas} {ys : List Pic} {st : Mat} {ls : List (Int × Int)} {vm vy v8 v22 : V} (row : RowS K T [] G H0 p sc xs H) (f : LF T (hd [p] H) vm vy v8 m ys st) (r22 : Rep (hd [p] H) v22 (Tup.mk ls)) (ok : OkE r c m n st W ls) (hQ : ∀ H', Q (.bl true) H') :
    t_law_15 K T { nx := fun _ H' => Q .non H', rt := Q } [some (.ref sc), some (.ref p), some (.int r), some (.int c), some vm, some vy, some (.int W), some (.int (n : Int)), some v8, a9, a10, a11, a12, a13, a14, a15, a16, a17, a18, a19, a20, a21, some v22, a23, a24, a25, a26, a27, a28] H := by
  obtain ⟨⟨b1, b2, b3, b4⟩, om, ll, ov, of⟩ := ok
  refine q_lcNum (P := fun x H5 => RowS K T [] G H0 p sc xs H5 ∧ 0 ≤ x ∧ x < 4 ∧ Le T (hd [p] H) (hd [p] H5)) (fun Q' q' => ?_) fun x H5 ⟨n5, x0, x3, e5⟩ => ?_
  · exact ⟨.ref p, rfl, [], G, H0, p, sc, xs, 4, rfl, row, by decide, by decide, fun v H2 n2 v0 v1 le2 => q' v H2 ⟨n2, v0, v1, le2⟩⟩
  refine tLc_draws (n := x) (many := r + c) x0 (by omega) n5 (fun _ => rfl) (fun j H6 n6 Q6 q6 => ⟨.ref p, rfl, .int r, rfl, .int c, rfl, r, c, rfl, rfl, [], G, H0, p, sc, xs, r + c, rfl, n6, by omega, by omega, q6⟩) fun L zs H6 fL n6 hL nL hlen hz le6 => ?_
  have e6 := e5.trans le6
  have s6 := n6.ms.up
  have f6 := f.le e6
  have r6 := r22.le e6
  have rz : Rep (hd [p] H6) (.ref L) zs := rep_lst (xs := zs.map V.int) (by rw [hd_out nL]; exact hL) (repAll_ints zs)
  obtain ⟨o1, o2, o3⟩ := ov zs (by omega) hz
  have hI : ∀ {σ : L2.St} {G : Hp} {i : Int} {k : Nat}, σ[k]? = some (some (.int i)) → EvR T (tVar k) σ G i := fun h => ev_var h rep_int
  refine q_skip s6 (et_not (et_B (al_fr (ev_call4x f6.t (hI rfl) (hI rfl) (ex_var rfl f6.m f6.x) (ev_var rfl rz) ⟨⟨b1, b2, b3, b4⟩, om, by omega, o1, o2⟩) (ev_call4 (hI rfl) (hI rfl) (ev_var rfl f6.m) (ev_call3s (hI rfl) (hI rfl) (es_list (ev_var rfl rz)) ⟨by omega, b2, by omega, b4, by omega⟩) o2) o3))) fun H7 e7 => ?_
  have n7 := n6.go e7
  have l7 := e7.hd s6.dom
  have hlen : EvR T (tOp (rI0 fun i j => .int (i + j)) (tCB (rLenS K) (tCons (tVar 22) tNil)) (tC (.int 1))) [some (.ref sc), some (.ref p), some (.int r), some (.int c), some vm, some vy, some (.int W), some (.int (n : Int)), some v8, a9, a10, a11, a12, a13, a14, a15, a16, a17, a18, a19, a20, a21, some v22, some (.ref L), a24, a25, a26, a27, a28] (hd [p] H7) ((ls.length : Int) + 1) := ev_opI0 (g := fun i j => i + j) (ev_lenT (ev_var rfl (r6.le l7))) ev_int
  refine ⟨.ref p, rfl, hlen [p] H7 n7.ms.up _ fun w H8 e8 r8 => ?_⟩
  obtain rfl := of_int r8
  have n8 := n7.go e8
  have l8 := e8.hd n7.ms.dom
  refine ⟨[], G, H0, p, sc, xs, (ls.length : Int) + 1, rfl, n8, by omega, by omega, fun gone H9 n9 g0 g1 le9 => ?_⟩
  have lA := (l7.trans l8).trans le9
  obtain ⟨k1, k2⟩ := of gone g0 (by omega)
  exact law_F n9.ms.dom (f6.s.le lA) (r6.le lA) ll k1 k2 hQ
end K4
end
section
set_option Elab.async false
set_option linter.all false
set_option maxRecDepth 100000
set_option maxHeartbeats 4000000
namespace K4
open PySem PySem.Spec PyProof.Rows L2 PySem.W
variable {P : Program} {w : World} {K : PySem.W.Frag} {mg : Str → Option Value} {base : Heap} {T : List (Addr × Str)}

variable {a0 a1 a2 a3 a4 a5 a6 a7 a8 a9 a10 a11 a12 a13 a14 a15 a16 a17 a18 a19 a20 a21 a22 a23 a24 a25 a26 a27 a28 : Option V}
/-- what the least values ask -/
structure OkL (r c : Int) (m : Meas) (n : Nat) (st : Mat) (W : Int) (vals : Tup ((Int × Int) × Int)) : Prop where
  b : okB r c
  ok : okMeas r c m
  l : okLeast r c m
  e : mLeast r c m = vals.items.map fun e => e.1
  ll : (mLeast r c m).length ≤ 100
  srt : ∀ i : Nat, i + 1 < (mLeast r c m).length → ((mLeast r c m).getD (i + 1) (0, 0)).1 * ((mLeast r c m).getD i (0, 0)).2 < ((mLeast r c m).getD i (0, 0)).1 * ((mLeast r c m).getD (i + 1) (0, 0)).2
  den : ∀ v ∈ mLeast r c m, 0 ≤ v.2 ∧ v.2 ≤ 64
  hd : ∃ rest, mLeast r c m = (1, 1) :: rest ∧ mSome r c m = rest
  E : OkE r c m n st W (mLeast r c m)
theorem rng1_mem {n : Nat} {x : Int} (h : x ∈ rng 1 n) : 1 ≤ x ∧ x < 1 + n := by
  obtain ⟨i, hi⟩ := List.getElem?_of_mem h
  obtain ⟨h1, h2⟩ := rng_at hi
  omega
theorem law_D {H G H0 : Hp} {p sc : Addr} {xs : List Int} {Q : VK} {r c W : Int} {n : Nat} {m : Meas} {ys : List Pic} {st : Mat} {vals : Tup ((Int × Int) × Int)} {vm vy v8 v13 : V} (row : RowS K T [] G H0 p sc xs H) (f : LF T (hd [p] H) vm vy v8 m ys st) (r13 : Rep (hd [p] H) v13 vals) (ok : OkL r c m n st W vals) (hQ : ∀ H', Q (.bl true) H') :
    t_law_11 K T { nx := fun _ H' => Q .non H', rt := Q } [some (.ref sc), some (.ref p), some (.int r), some (.int c), some vm, some vy, some (.int W), some (.int (n : Int)), some v8, a9, a10, a11, a12, some v13, a14, a15, a16, a17, a18, a19, a20, a21, a22, a23, a24, a25, a26, a27, a28] H := by
  obtain ⟨b, om, ol, he, ll, srt, den, ⟨rest, hh, hs⟩, oE⟩ := ok
  have hI : ∀ {σ : L2.St} {G : Hp} {i : Int} {k : Nat}, σ[k]? = some (some (.int i)) → EvR T (tVar k) σ G i := fun h => ev_var h rep_int
  have s0 := row.ms.up
  refine q_asg s0 (ev_call3x f.t (hI rfl) (hI rfl) (ex_var rfl f.m f.x) ⟨b, om, ol⟩) fun v22 H1 e1 r22 => ?_
  have n1 := row.go e1
  have f1 := f.le (e1.hd s0.dom)
  have v1 := r13.le (e1.hd s0.dom)
  generalize hL : mLeast r c m = ls at *
  refine q_skip n1.ms.up (et_is (et_test (ev_ne (en_listT (ev_var rfl r22)).r (en_map (fun e : (Int × Int) × Int => e.1) (sr_tup (ev_var rfl v1)) tgm_pair ?_ fun x hx v' S' H' s rx => g_pair rx fun vx vy rx1 rx2 => ⟨rfl, rfl, ev_var rfl rx1⟩).r)) ?_) fun H2 e2 => ?_
  · have := congrArg List.length he
    rw [List.length_map] at this
    omega
  · rw [← he]
    simp
  have n2 := n1.go e2
  have f2 := f1.le (e2.hd n1.ms.dom)
  have w2 := r22.le (e2.hd n1.ms.dom)
  refine q_skip n2.ms.up (et_is (et_test (ev_ne (ev_is (en_lc (fun i : Int => decide ((ls.getD (i - 1).toNat (0, 0)).1 * (ls.getD i.toNat (0, 0)).2 ≤ (ls.getD i.toNat (0, 0)).1 * (ls.getD (i - 1).toNat (0, 0)).2)) (fun i => i) (sr_r2 ev_int (ev_lenT (ev_var rfl w2)) (by decide) (by decide) (by omega) (by show (ls.length : Int) ≤ _; omega)) tgm_name ?_ fun i hi v' S' H' s rx => ⟨rfl, rfl, ?_, fun _ => ev_var rfl rx⟩).r (x' := ([] : List Int)) ?_) (en_lst eas_nil (by decide)).r)) (by simp)) fun H3 e3 => ?_
  · rw [rng_len]
    show ((ls.length : Int) - 1).toNat ≤ _
    omega
  · have hi' := rng1_mem hi
    have i1 : 1 ≤ i ∧ i < (ls.length : Int) := by
      have : i < 1 + (((ls.length : Int) - 1).toNat : Int) := hi'.2
      omega
    have w3 := w2.le s.le
    have hA : EvR T (tOp (rIxT K) (tVar 22) (tVar 27)) [some (.ref sc), some (.ref p), some (.int r), some (.int c), some vm, some vy, some (.int W), some (.int (n : Int)), some v8, a9, a10, a11, a12, some v13, a14, a15, a16, a17, a18, a19, a20, a21, some v22, a23, a24, a25, a26, some v', a28] (hd S' H') (ls.getD i.toNat (0, 0)) := ev_ixT (ev_var rfl w3) (ev_var rfl rx) (atI_get (0, 0) (by omega) (by show i < (ls.length : Int); omega))
    have hB : EvR T (tOp (rIxT K) (tVar 22) (tOp (rI0 fun i j => .int (i - j)) (tVar 27) (tC (.int 1)))) [some (.ref sc), some (.ref p), some (.int r), some (.int c), some vm, some vy, some (.int W), some (.int (n : Int)), some v8, a9, a10, a11, a12, some v13, a14, a15, a16, a17, a18, a19, a20, a21, some v22, a23, a24, a25, a26, some v', a28] (hd S' H') (ls.getD (i - 1).toNat (0, 0)) := ev_ixT (ev_var rfl w3) (ev_opI0 (g := fun i j => i - j) (ev_var rfl rx) ev_int) (atI_get (0, 0) (by omega) (by show i - 1 < (ls.length : Int); omega))
    have d1 := den _ (getD_mem (xs := ls) (i := i) (0, 0) (by omega) (by omega))
    have d2 := den _ (getD_mem (xs := ls) (i := i - 1) (0, 0) (by omega) (by omega))
    exact et_test (ev_cmp (g := fun i j => decide (j ≤ i)) (ev_opI (g := fun i j => i * j) (ev_fst hA) (ev_snd hB) (.inr ⟨by omega, by omega⟩)) (ev_opI (g := fun i j => i * j) (ev_fst hB) (ev_snd hA) (.inr ⟨by omega, by omega⟩)))
  · rw [List.map_id']
    refine List.filter_eq_nil_iff.mpr fun i hi => ?_
    have hi' := rng1_mem hi
    have i1 : 1 ≤ i ∧ i < (ls.length : Int) := by
      have : i < 1 + (((ls.length : Int) - 1).toNat : Int) := hi'.2
      omega
    have e1 : i.toNat = (i - 1).toNat + 1 := by omega
    have := srt (i - 1).toNat (by omega)
    rw [← e1] at this
    rw [decide_eq_true_iff]
    omega
  have n3 := n2.go e3
  have f3 := f2.le (e3.hd n2.ms.dom)
  have w3 := w2.le (e3.hd n2.ms.dom)
  refine q_skip n3.ms.up (et_is (et_or (b := false) (c := false) (et_not (et_B (b := true) ?_)) fun _ => et_is (et_test (ev_ne (ev_ixT (ev_var rfl w3) ev_int (x := ((1, 1) : Int × Int)) ?_) (ev_tup2 ev_int ev_int))) (by simp)) rfl) fun H4 e4 => ?_
  · have hT : EvT T (tTest (tOp (rI0 fun i j => .bl (decide (j < i))) (tCB (rLenS K) (tCons (tVar 22) tNil)) (tC (.int 1)))) [some (.ref sc), some (.ref p), some (.int r), some (.int c), some vm, some vy, some (.int W), some (.int (n : Int)), some v8, a9, a10, a11, a12, some v13, a14, a15, a16, a17, a18, a19, a20, a21, some v22, a23, a24, a25, a26, a27, a28] (hd [p] H3) (decide ((1 : Int) < (ls.length : Int))) := et_test (ev_cmp (g := fun i j => decide (j < i)) (ev_lenT (ev_var rfl w3)) ev_int)
    cases hr : rest with
    | nil =>
      have hlen : ls.length = 1 := by rw [hh, hr] <;> rfl
      exact al_non (ev_call3xo (f := fun (_ _ : Int) (_ : Meas) => ()) (fun _ _ _ _ h => .inr h) f3.t (hI rfl) (hI rfl) (ex_var rfl f3.m f3.x) ⟨b, om, ol, by rw [hs, hr], by rw [hL]; omega⟩) (ev_if hT (fun z => absurd (of_decide_eq_true z) (by omega)) fun _ => ev_non)
    | cons v2 rest' =>
      have hlen : (1 : Int) < (ls.length : Int) := by rw [hh, hr]; simp only [List.length_cons]; omega
      refine al_fr (ev_call3xo (f := fun r c m => (mSome r c m).headD (0, 0)) (fun _ _ _ _ h => .inl h) f3.t (hI rfl) (hI rfl) (ex_var rfl f3.m f3.x) ⟨b, om, ol, by rw [hs, hr]; simp, by rw [hL]; omega⟩) (ev_if hT (fun z => ev_ixT (ev_var rfl w3) ev_int (x := v2) ?_) fun z => absurd hlen (of_decide_eq_false z)) ?_
      · rw [hh, hr]
        exact (atI_get (xs := ((1, 1) : Int × Int) :: v2 :: rest') (i := 1) (0, 0) (by decide) (by simp only [List.length_cons]; omega)).trans rfl
      · show (mSome r c m).headD (0, 0) = v2
        rw [hs, hr]
        rfl
  · rw [hh]
    exact (atI_get (xs := ((1, 1) : Int × Int) :: rest) (i := 0) (0, 0) (by decide) (by simp only [List.length_cons]; omega)).trans rfl
  exact law_E (n3.go e4) (f3.le (e4.hd n3.ms.dom)) (w3.le (e4.hd n3.ms.dom)) oE hQ
end K4
end
section
set_option Elab.async false
set_option linter.all false
set_option maxRecDepth 100000
set_option maxHeartbeats 4000000
namespace K4
open PySem PySem.Spec PyProof.Rows L2 PySem.W
variable {P : Program} {w : World} {K : PySem.W.Frag} {mg : Str → Option Value} {base : Heap} {T : List (Addr × Str)}

variable {a0 a1 a2 a3 a4 a5 a6 a7 a8 a9 a10 a11 a12 a13 a14 a15 a16 a17 a18 a19 a20 a21 a22 a23 a24 a25 a26 a27 a28 : Option V}
/-- what the powers ask -/
structure OkC (r c : Int) (m : Meas) (n : Nat) (st : Mat) (W : Int) (vals : Tup ((Int × Int) × Int)) (k : Nat) : Prop where
  t : ∀ (i : Nat) e, vals.items[i]? = some e → (∀ j : Nat, j < k → okP (mPart e.2 e.1 j) e.1) ∧ -B30 ≤ e.1.1 ∧ e.1.1 ≤ B30 ∧ okP (mSums (vals.items.take i) k) (mPart e.2 e.1 k)
  s : mSums vals.items k = mFr (((rng 0 n).map fun i => mAt (mPow st n k) i i).sum) (W ^ k)
  w : 0 < W ^ k ∧ W ^ k < 4611686018427387904
  tr : okTrace r c m (k : Int) ∧ mTrace r c m (k : Int) = mSums vals.items k
  p : okProd (mPow st n k) st
theorem pow_dims (st : Mat) (n : Nat) : ∀ k, (mPow st n k).length = n ∧ ∀ row ∈ mPow st n k, row.length = n
  | 0 => by
    unfold mPow mId
    refine ⟨by rw [List.length_map, rng_len], fun row hr => ?_⟩
    obtain ⟨i, _, rfl⟩ := List.mem_map.mp hr
    rw [List.length_map, rng_len]
  | k + 1 => by
    have := (pow_dims st n k).1
    unfold mPow mProd
    refine ⟨by rw [List.length_map, rng_len]; omega, fun row hr => ?_⟩
    obtain ⟨i, _, rfl⟩ := List.mem_map.mp hr
    rw [List.length_map, rng_len]
    omega
theorem law_C {H G H0 : Hp} {p sc : Addr} {xs : List Int} {Q : VK} {r c W : Int} {n : Nat} {m : Meas} {ys : List Pic} {st : Mat} {vals : Tup ((Int × Int) × Int)} {vm vy v8 v13 v14 : V} (row : RowS K T [] G H0 p sc xs H) (f : LF T (hd [p] H) vm vy v8 m ys st) (r13 : Rep (hd [p] H) v13 vals) (r14 : Rep (hd [p] H) v14 (mId n)) (n1 : n ≤ 16) (wb : 0 ≤ W ∧ W ≤ 64) (okC : ∀ k < 5, OkC r c m n st W vals k) (ok : OkL r c m n st W vals) (hQ : ∀ H', Q (.bl true) H') :
    t_law_10 K T { nx := fun _ H' => Q .non H', rt := Q } [some (.ref sc), some (.ref p), some (.int r), some (.int c), some vm, some vy, some (.int W), some (.int (n : Int)), some v8, a9, a10, a11, a12, some v13, some v14, some (.int 1), a16, a17, a18, a19, a20, a21, a22, a23, a24, a25, a26, a27, a28] H := by
  have hI : ∀ {σ : L2.St} {G : Hp} {i : Int} {k : Nat}, σ[k]? = some (some (.int i)) → EvR T (tVar k) σ G i := fun h => ev_var h rep_int
  have s0 := row.ms.up
  refine s_forS (D := { nx := _, rt := _, bk := _, ct := _ }) s0 (sr_r1 (n := 5) ev_int (by decide) (by decide)) (fun H2 i σ' H' => ∃ x b16 b17 b18 b19 b20 b21, σ' = [some (.ref sc), some (.ref p), some (.int r), some (.int c), some vm, some vy, some (.int W), some (.int (n : Int)), some v8, a9, a10, a11, a12, some v13, some x, some (.int (W ^ i)), b16, b17, b18, b19, b20, b21, a22, a23, a24, a25, a26, a27, a28] ∧ Le T H2 H' ∧ Sg T (hd [p] H2) [p] H' ∧ Rep (hd [p] H') x (mPow st n i)) (fun H2 e2 => ⟨v14, a16, a17, a18, a19, a20, a21, by rw [Int.pow_zero], .same, ⟨(s0.go e2).dom, .same⟩, r14.le (e2.hd s0.dom)⟩) (fun H2 i σ' H' ⟨_, _, _, _, _, _, _, _, _, s', _⟩ => ⟨[p], s'⟩) ?_ ?_
  · rintro H2 k kI vk σ' H' H'' e2 hk ⟨x, b16, b17, b18, b19, b20, b21, rfl, e', s', rx⟩ e3 rk
    obtain ⟨hk1, hk2⟩ := rng_at hk
    have hk5 : k < 5 := hk1
    have hkI : kI = (k : Int) := by omega
    obtain rfl := of_int (rk [p] s')
    subst hkI
    obtain ⟨ot, os, ow, ⟨otr, etr⟩, op⟩ := okC k hk5
    have s3 := s'.go e3
    have lA := ((e2.trans e').trans e3).hd s0.dom
    have f3 := f.le lA
    have w13 := r13.le lA
    have rx3 := rx.le (e3.hd s'.dom)
    refine q_asg s3.up (x := ((0, 1) : Int × Int)) (ev_tup2 ev_int ev_int) fun v17 H3 e4 r17 => ?_
    have s4 := s3.go e4
    have l4 := e4.hd s3.dom
    refine q_forT s4.up (ev_var rfl (w13.le l4)) (fun H5 j σ' H' => ∃ x17 b18 b19 b20 b21, σ' = [some (.ref sc), some (.ref p), some (.int r), some (.int c), some vm, some vy, some (.int W), some (.int (n : Int)), some v8, a9, a10, a11, a12, some v13, some x, some (.int (W ^ k)), some (.int (k : Int)), some x17, b18, b19, b20, b21, a22, a23, a24, a25, a26, a27, a28] ∧ Le T H5 H' ∧ Sg T (hd [p] H5) [p] H' ∧ Rep (hd [p] H') x17 (mSums (vals.items.take j) k)) (fun H5 e5 => ⟨v17, b18, b19, b20, b21, rfl, .same, ⟨(s4.go e5).dom, .same⟩, r17.le (e5.hd s4.dom)⟩) (fun H5 j σ' H' ⟨_, _, _, _, _, _, _, s', _⟩ => ⟨[p], s'⟩) ?_ ?_
    · rintro H5 j e ve σ' H6 H7 e5 hj ⟨x17, b18, b19, b20, b21, rfl, e6, s6, r6⟩ e7 re
      have re' := re [p] s6
      have s7 := s6.go e7
      obtain ⟨t1, t2, t3, t4⟩ := ot j e hj
      refine g_pair re' fun va vb ra rb => ?_
      refine q_asg s7.up (x := mPart e.2 e.1 0) (ev_tup2 (ev_var rfl rb) ev_int) fun v20 H8 e8 r20 => ?_
      have s8 := s7.go e8
      have l8 := e8.hd s7.dom
      refine s_forS (D := { nx := _, rt := _, bk := _, ct := _ }) s8.up (sr_r1 (n := (k : Int)) (hI rfl) (by omega) (by omega)) (fun H9 l σ' H' => ∃ x20 b21, σ' = [some (.ref sc), some (.ref p), some (.int r), some (.int c), some vm, some vy, some (.int W), some (.int (n : Int)), some v8, a9, a10, a11, a12, some v13, some x, some (.int (W ^ k)), some (.int (k : Int)), some x17, some va, some vb, some x20, b21, a22, a23, a24, a25, a26, a27, a28] ∧ Le T H9 H' ∧ Sg T (hd [p] H9) [p] H' ∧ Rep (hd [p] H') x20 (mPart e.2 e.1 l)) (fun H9 e9 => ⟨v20, b21, rfl, .same, ⟨(s8.go e9).dom, .same⟩, r20.le (e9.hd s8.dom)⟩) (fun H9 l σ' H' ⟨_, _, _, _, s', _⟩ => ⟨[p], s'⟩) ?_ ?_
      · rintro H9 l lI vl σ' H10 H11 e9 hl ⟨x20, b21, rfl, e10, s10, r10⟩ e11 rl
        obtain ⟨hl1, _⟩ := rng_at hl
        have hlk : l < k := hl1
        have s11 := s10.go e11
        have lB := ((e9.trans e10).trans e11).hd s8.dom
        refine s_asg s11.up (x := mPart e.2 e.1 (l + 1)) (ev_call2 (ev_var rfl (r10.le (e11.hd s10.dom))) (ev_var rfl ((ra.le l8).le lB)) ⟨t1 l hlk, t2, t3⟩) fun y H12 e12 r12 => ?_
        exact ⟨y, _, rfl, (e10.trans e11).trans e12, s11.go e12, r12⟩
      · rintro H9 σ' H10 e9 ⟨x20, b21, rfl, e10, s10, r10⟩
        rw [rng_len] at r10
        have r10' : Rep (hd [p] H10) x20 (mPart e.2 e.1 k) := r10
        have lB := ((e7.trans e8).trans (e9.trans e10)).hd s6.dom
        have ht : mSums (vals.items.take (j + 1)) k = mPlus (mSums (vals.items.take j) k) (mPart e.2 e.1 k) := by
          unfold mSums
          rw [List.take_add_one, hj, List.foldl_append] <;> rfl
        refine s_asg s10.up (ev_call2 (ev_var rfl (r6.le lB)) (ev_var rfl r10') t4) fun y H12 e12 r12 => ?_
        exact ⟨y, _, _, _, _, rfl, ((e6.trans e7).trans (e8.trans (e9.trans e10))).trans e12, (s6.go ((e7.trans e8).trans (e9.trans e10))).go e12, by rw [ht]; exact r12⟩
    · rintro H5 σ' H6 e5 ⟨x17, b18, b19, b20, b21, rfl, e6, s6, r6⟩
      rw [List.take_length] at r6
      have lB := (e5.trans e6).hd s4.dom
      have s6' := s4.go (e5.trans e6)
      have lC := l4.trans lB
      have rN := rx3.le lC
      have f6 := f3.le lC
      have dm := pow_dims st n k
      refine q_skip s6'.up (et_is (et_test (ev_ne (ev_var rfl r6) (ev_call2 (ev_sum (en_map (fun i => mAt (mPow st n k) i i) (sr_r1 (n := (n : Int)) (hI rfl) (by omega) (by omega)) tgm_name (by rw [rng_len]; omega) fun i hi v1 S1 H1 s1 ri => ⟨rfl, rfl, ?_⟩).r) (ev_var (x := W ^ k) rfl rep_int) ow))) ?_) fun H7 e7 => ?_
      · have i1 := rng_mem hi
        have ma := getD_mem (xs := mPow st n k) (i := i) [] (by omega) (by omega)
        have la := dm.2 _ ma
        exact ev_ixL (ev_ixL (ev_var rfl (rN.le s1.le)) (ev_var rfl ri) (atI_get [] (by omega) (by omega))) (ev_var rfl ri) (atI_get 0 (by omega) (by omega))
      · rw [decide_eq_false_iff_not]
        exact fun z => z os
      have s7 := s6'.go e7
      have l7 := e7.hd s6'.dom
      have f7 := f6.le l7
      refine q_skip s7.up (et_not (et_B (al_fr (ev_call4x f7.t (hI rfl) (hI rfl) (ex_var rfl f7.m f7.x) (hI rfl) otr) (ev_var rfl (r6.le l7)) etr))) fun H8 e8 => ?_
      have s8 := s7.go e8
      have l8 := e8.hd s7.dom
      have f8 := f7.le l8
      refine (ev_tup2 (x := mPow st n (k + 1)) (y := W ^ (k + 1)) (ev_call3 (ev_var rfl ((rN.le l7).le l8)) (ev_var rfl f8.s) (ev_var (x := W) rfl rep_int) op) (ev_is (ev_opI (g := fun i j => i * j) (ev_var (x := W ^ k) rfl rep_int) (ev_var (x := W) rfl rep_int) (.inr ⟨by omega, by omega⟩)) (Int.pow_succ _ _).symm) : EvR T (tTup (tCons (tCall (sp_law_product K T) [] E0 (tCons (tVar 14) (tCons (tVar 8) (tCons (tVar 6) tNil)))) (tCons (tOp (rI CMul fun i j => .int (i * j)) (tVar 15) (tVar 6)) tNil))) [some (.ref sc), some (.ref p), some (.int r), some (.int c), some vm, some vy, some (.int W), some (.int (n : Int)), some v8, a9, a10, a11, a12, some v13, some x, some (.int (W ^ k)), some (.int (k : Int)), some x17, b18, b19, b20, b21, a22, a23, a24, a25, a26, a27, a28] (hd [p] H8) (mPow st n (k + 1), W ^ (k + 1))) [p] H8 s8.up _ fun vt H9 e9 r9 => ?_
      have s9 := s8.go e9
      refine g_pair r9 fun vN vW rN' rW' => ?_
      obtain rfl := of_int rW'
      have eA : Le T H' H9 := ((((e3.trans e4).trans (e5.trans e6)).trans e7).trans e8).trans e9
      exact ⟨vN, _, _, _, _, _, _, rfl, e'.trans eA, s'.go eA, rN'⟩
  · rintro H2 σ' H' e2 ⟨x, b16, b17, b18, b19, b20, b21, rfl, e', s', rx⟩
    have eA := e2.trans e'
    exact law_D (row.go eA) (f.le (eA.hd s0.dom)) (r13.le (eA.hd s0.dom)) ok hQ
end K4
end
section
set_option Elab.async false
set_option linter.all false
set_option maxRecDepth 100000
set_option maxHeartbeats 4000000
namespace K4
open PySem PySem.Spec PyProof.Rows L2 PySem.W
variable {P : Program} {w : World} {K : PySem.W.Frag} {mg : Str → Option Value} {base : Heap} {T : List (Addr × Str)}

variable {a0 a1 a2 a3 a4 a5 a6 a7 a8 a9 a10 a11 a12 a13 a14 a15 a16 a17 a18 a19 a20 a21 a22 a23 a24 a25 a26 a27 a28 : Option V}
/-- what the values ask -/
structure OkB (r c : Int) (m : Meas) (n : Nat) (st : Mat) (W : Int) : Prop where
  own : okOwn r c m
  len : (mOrd (mVals r c m)).items.length ≤ 100
  s : ((mOrd (mVals r c m)).items.map fun e => e.2).sum = (n : Int)
  pos : ∀ e ∈ (mOrd (mVals r c m)).items, 0 < e.2
  n1 : n ≤ 16
  wb : 0 ≤ W ∧ W ≤ 64
  C : ∀ k < 5, OkC r c m n st W (mOrd (mVals r c m)) k
  L : OkL r c m n st W (mOrd (mVals r c m))
theorem q_asgP {α : Type} [DecidableEq α] [Datum α] {σ : L2.St} {S : List Addr} {G H : Hp} {te : TE} {g : TG} {tz : TS} {D : Ends} {x : α} (s : Sg T G S H) (h : EvR T te σ G x) (k : ∀ v H1, Le T H H1 → Rep (hd S H1) v x → g v σ H1 (tz D)) : tSeq (tAsg te g) tz D σ H := h S H s _ k
theorem law_B {H G H0 : Hp} {p sc : Addr} {xs : List Int} {Q : VK} {r c W : Int} {n : Nat} {m : Meas} {ys : List Pic} {st : Mat} {vm vy v8 : V} (row : RowS K T [] G H0 p sc xs H) (f : LF T (hd [p] H) vm vy v8 m ys st) (ok : OkB r c m n st W) (hQ : ∀ H', Q (.bl true) H') :
    t_law_6 K T { nx := fun _ H' => Q .non H', rt := Q } [some (.ref sc), some (.ref p), some (.int r), some (.int c), some vm, some vy, some (.int W), some (.int (n : Int)), some v8, a9, a10, a11, a12, a13, a14, a15, a16, a17, a18, a19, a20, a21, a22, a23, a24, a25, a26, a27, a28] H := by
  obtain ⟨own, len, hs, pos, n1, wb, oC, oL⟩ := ok
  have hI : ∀ {σ : L2.St} {G : Hp} {i : Int} {k : Nat}, σ[k]? = some (some (.int i)) → EvR T (tVar k) σ G i := fun h => ev_var h rep_int
  have s0 := row.ms.up
  refine q_asg s0 (ev_call3x f.t (hI rfl) (hI rfl) (ex_var rfl f.m f.x) own) fun v13 H1 e1 r13 => ?_
  have s1 := s0.go e1
  have l1 := e1.hd s0.dom
  generalize mOrd (mVals r c m) = vals at *
  refine q_skip s1.up (et_is (et_test (ev_ne (ev_sum (en_map (fun e : (Int × Int) × Int => e.2) (sr_tup (ev_var rfl r13)) tgm_pair (by omega) fun x hx v' S' H' s rx => g_pair rx fun vx vy rx1 rx2 => ⟨rfl, rfl, ev_var rfl rx2⟩).r) (hI rfl))) (by rw [hs]; simp)) fun H2 e2 => ?_
  have s2 := s1.go e2
  have r13' := r13.le (e2.hd s1.dom)
  refine q_skip s2.up (et_is (et_test (ev_ne (en_map (fun e : (Int × Int) × Int => e.1) (sr_tup (ev_var rfl r13')) tgm_pair (by omega) fun x hx v' S' H' s rx => g_pair rx fun vx vy rx1 rx2 => ⟨rfl, rfl, ev_var rfl rx1⟩).r (en_lc (fun e : (Int × Int) × Int => decide (0 < e.2)) (fun e => e.1) (sr_tup (ev_var rfl r13')) tgm_pair (by omega) fun x hx v' S' H' s rx => g_pair rx fun vx vy rx1 rx2 => ⟨rfl, rfl, et_test (ev_cmp (g := fun i j => decide (j < i)) (ev_var rfl rx2) ev_int), fun _ => ev_var rfl rx1⟩).r)) ?_) fun H3 e3 => ?_
  · rw [List.filter_eq_self.mpr fun e he => decide_eq_true (pos e he)]
    simp
  have s3 := s2.go e3
  have eA := (e1.trans e2).trans e3
  refine q_asgP s3.up (x := (mId n, (1 : Int))) (ev_tup2 (en_id (by omega)).r ev_int) fun vt H4 e4 r4 => ?_
  refine g_pair r4 fun vN v1 rN r1 => ?_
  obtain rfl := of_int r1
  have eB := eA.trans e4
  exact law_C (row.go eB) (f.le (eB.hd s0.dom)) (r13'.le ((e3.trans e4).hd s2.dom)) rN n1 wb oC oL hQ
end K4
end
section
set_option Elab.async false
set_option linter.all false
set_option maxRecDepth 100000
set_option maxHeartbeats 4000000
namespace K4
open PySem PySem.Spec PyProof.Rows L2 PySem.W
variable {P : Program} {w : World} {K : PySem.W.Frag} {mg : Str → Option Value} {base : Heap} {T : List (Addr × Str)}

variable {a0 a1 a2 a3 a4 a5 a6 a7 a8 a9 a10 a11 a12 a13 a14 a15 a16 a17 a18 a19 a20 a21 a22 a23 a24 a25 a26 a27 a28 : Option V}
/-- a picture behind an effect -/
def plE (x : Pic) (e : Tup Int) : Pic := mPlay x e.items
def mSteps (m : Meas) (ys : List Pic) : Mat := matOf ys (stp plE m.items)
structure OkS (m : Meas) (ys : List Pic) : Prop where
  nd : ys.Nodup
  n1 : ys.length ≤ 16
  pics : ∀ x ∈ ys, ∀ e ∈ m.items, (∀ i, okPic (mPlay x (e.1.items.take i))) ∧ mPlay x e.1.items ∈ ys
theorem q_forT2 {α' : Type} [DecidableEq α'] [Datum α'] {σ : L2.St} {S : List Addr} {G H : Hp} {tl : TE} {g : TG} {tu tz : TS} {D : Ends} {xs : Tup α'} (s : Sg T G S H) (h : EvR T tl σ G xs) (Pv : Hp → Nat → L2.St → Hp → Prop) (h0 : ∀ H1, Le T H H1 → Pv H1 0 σ H1) (hl : ∀ H1 i σ' H', Pv H1 i σ' H' → Sg T (hd S H1) S H')
    (hs : ∀ H1 i x v σ' H' H'', Le T H H1 → xs.items[i]? = some x → Pv H1 i σ' H' → Le T H' H'' → Rep (hd S H'') v x → g v σ' H'' fun σ2 H2 => tu { nx := Pv H1 (i + 1), rt := D.rt, ct := Pv H1 (i + 1), bk := tz D } σ2 H2) (hd' : ∀ H1 σ' H', Le T H H1 → Pv H1 xs.items.length σ' H' → tz D σ' H') : tSeq (tFor (iTup K tl) g tu) tz D σ H :=
  q_forT s h Pv h0 (fun H1 i σ' H' p => ⟨S, hl H1 i σ' H' p⟩) (fun H1 i x v σ' H' H'' e hi p e2 rx => hs H1 i x v σ' H' H'' e hi p e2 (rx S (hl H1 i σ' H' p))) hd'
theorem line_set {ys : List Pic} {m : Meas} {j : Nat} {e : Tup Int × Int} {x : Pic} (nd : ys.Nodup) (hj : m.items[j]? = some e) (hz : plE x e.1 ∈ ys) : (List.map V.int (ys.map (stp plE (m.items.take j) x))).set (ys.idxOf (plE x e.1)) (.int (stp plE (m.items.take j) x (plE x e.1) + e.2)) = List.map V.int (ys.map (stp plE (m.items.take (j + 1)) x)) := by
  rw [← List.map_set, set_map nd _ _ hz]
  exact congrArg _ (List.map_congr_left fun y _ => (stp_take plE m.items hj x y).symm)
theorem law_A {H G H0 Hb : Hp} {p q sc : Addr} {xs : List Int} {Q : VK} {r c W : Int} {m : Meas} {ys : List Pic} {vm vy : V} (row : RowS K T [] G H0 p sc xs Hb) (fm : Rep (hd [p] Hb) vm m) (fx : Ex (hd [p] Hb) vm) (fy : Rep (hd [p] Hb) vy ys) (ft : GT T (hd [p] Hb)) (n1 : MS T [p] (hd [p] Hb) Hb q (.lst []) H) (os : OkS m ys) (ml : m.items.length ≤ 100) (ok : OkB r c m ys.length (mSteps m ys) W) (hQ : ∀ H', Q (.bl true) H') :
    tSeq (tFor (iList K (tVar 5)) (gName 9)
   (tSeq (tAsg (tOp rRep (tLst (tCons (tC (.int 0)) tNil)) (tVar 7)) (gName 10))
  (tSeq (tFor (iTup K (tVar 4)) (gTup K 2 (gCons (gName 11) (gCons (gName 12) gNil)))
   (tAugS (tVar 10) (tBM K "list" (rIdxQ (Tup Str)) (tVar 5) (tCons (tCall (sp_law_strokes K T) [] E0 (tCons (tVar 9) (tCons (tVar 11) tNil))) tNil)) (tVar 12) rGetL (ipI fun i j => i + j) rSetL))
  (tDrop (tBM K "list" rAppend (tVar 8) (tCons (tVar 10) tNil)))))) (t_law_6 K T) { nx := fun _ H' => Q .non H', rt := Q } [some (.ref sc), some (.ref p), some (.int r), some (.int c), some vm, some vy, some (.int W), some (.int (ys.length : Int)), some (.ref q), a9, a10, a11, a12, a13, a14, a15, a16, a17, a18, a19, a20, a21, a22, a23, a24, a25, a26, a27, a28] H := by
  have hI : ∀ {σ : L2.St} {G : Hp} {i : Int} {k : Nat}, σ[k]? = some (some (.int i)) → EvR T (tVar k) σ G i := fun h => ev_var h rep_int
  obtain ⟨nd, nl, pics⟩ := os
  have d0 := row.ms.dom
  have ry := fy.le n1.s.le
  have rm := fm.le n1.s.le
  refine q_forL n1.s.up (ev_var rfl ry) (fun H2 i σ' H' => ∃ o9 o10 o11 o12 vs, σ' = [some (.ref sc), some (.ref p), some (.int r), some (.int c), some vm, some vy, some (.int W), some (.int (ys.length : Int)), some (.ref q), o9, o10, o11, o12, a13, a14, a15, a16, a17, a18, a19, a20, a21, a22, a23, a24, a25, a26, a27, a28] ∧ MS T [p] (hd [q, p] H2) Hb q (.lst vs) H' ∧ RepAll (hd [q, p] H') vs ((mSteps m ys).take i)) (fun H2 e2 => ⟨a9, a10, a11, a12, [], rfl, (n1.go e2).base, repAll_nil⟩) (fun H2 i σ' H' ⟨_, _, _, _, _, _, n, _⟩ => ⟨_, n.s⟩) ?_ ?_
  · rintro H2 i x v σ' H' H'' e2 hi ⟨o9, o10, o11, o12, vs, rfl, n, rv⟩ e3 rx
    have hx := List.mem_of_getElem? hi
    have il : i < ys.length := (List.getElem?_eq_some_iff.mp hi).1
    have rx' : Rep (hd [q, p] H'') v x := rx _ n.s
    have n3 := n.go e3
    have lq := (e2.hd n1.s.dom).trans n3.s.le
    refine q_asgN n3.s.up (en_rep (xs := [(0 : Int)]) (en_lst (eas_cons ev_int eas_nil) (by decide)).r (hI rfl) (by omega) (by omega) (by decide)) fun L us H4 nL e4 eh hL rL => ?_
    have hus : us = List.map V.int (ys.map (stp plE (m.items.take 0) x)) := by
      rw [rL.ints]
      refine congrArg _ ?_
      have : ∀ k : Nat, (List.replicate k [(0 : Int)]).flatten = List.replicate k 0 := fun k => by
        induction k with
        | zero => rfl
        | succ k ih => rw [List.replicate_succ, List.flatten_cons, ih, List.replicate_succ] <;> rfl
      show (List.replicate (ys.length : Int).toNat [(0 : Int)]).flatten = ys.map fun y => (0 : Int)
      rw [Int.toNat_natCast, this, List.map_const']
    rw [hus] at hL
    have nn : MS T [q, p] (hd [q, p] H'') H'' L (.lst (List.map V.int (ys.map (stp plE (m.items.take 0) x)))) H4 := MS.init n3.s.dom .same nL e4 eh hL trivial
    refine q_forT2 nn.s.up (ev_var rfl ((rm.le lq).le eh)) (fun H5 j σ' H' => ∃ o11 o12, σ' = [some (.ref sc), some (.ref p), some (.int r), some (.int c), some vm, some vy, some (.int W), some (.int (ys.length : Int)), some (.ref q), some v, some (.ref L), o11, o12, a13, a14, a15, a16, a17, a18, a19, a20, a21, a22, a23, a24, a25, a26, a27, a28] ∧ MS T [q, p] (hd [L, q, p] H5) H'' L (.lst (List.map V.int (ys.map (stp plE (m.items.take j) x)))) H') (fun H5 e5 => ⟨o11, o12, rfl, (nn.go e5).base⟩) (fun H5 j σ' H' ⟨_, _, _, n⟩ => n.s) ?_ ?_
    · rintro H5 j e ve σ' H6 H7 e5 hj ⟨o11, o12, rfl, n5⟩ e6 re
      have n7 := n5.go e6
      have he := List.mem_of_getElem? hj
      obtain ⟨pk, pm⟩ := pics x hx e he
      have pm' : plE x e.1 ∈ ys := pm
      refine g_pair re.shown fun va vb ra rb => ?_
      obtain rfl := of_int rb
      have l7 : Le T (hd [q, p] H'') (hd [q, p] H7) := n7.le.hd n3.s.dom
      have hE : EvR T (tBM K "list" (rIdxQ (Tup Str)) (tVar 5) (tCons (tCall (sp_law_strokes K T) [] E0 (tCons (tVar 9) (tCons (tVar 11) tNil))) tNil)) [some (.ref sc), some (.ref p), some (.int r), some (.int c), some vm, some vy, some (.int W), some (.int (ys.length : Int)), some (.ref q), some v, some (.ref L), some va, some (.int e.2), a13, a14, a15, a16, a17, a18, a19, a20, a21, a22, a23, a24, a25, a26, a27, a28] (hd [q, p] H7) ((ys.idxOf (mPlay x e.1.items) : Nat) : Int) := ev_idx (ev_var rfl ((ry.le lq).le l7)) (ev_call2 (ev_var rfl (rx'.le l7)) (ev_var rfl ra) pk) pm (by omega)
      refine ⟨.ref L, rfl, hE [q, p] H7 n7.rd _ fun vi H8 e8 ri => ?_⟩
      obtain rfl := of_int ri
      have n8 := n7.go e8
      have hlt : ys.idxOf (plE x e.1) < ys.length := List.idxOf_lt_length_of_mem pm'
      have hz : ys[ys.idxOf (plE x e.1)]? = some (plE x e.1) := by rw [List.getElem?_eq_getElem hlt, List.getElem_idxOf]
      have hix : ixN (List.map V.int (ys.map (stp plE (m.items.take j) x))).length ((ys.idxOf (plE x e.1) : Nat) : Int) = some (ys.idxOf (plE x e.1)) := by
        unfold ixN
        rw [if_pos (by omega), if_pos (by rw [List.length_map, List.length_map]; omega), Int.toNat_natCast]
      have hat : atI (List.map V.int (ys.map (stp plE (m.items.take j) x))) ((ys.idxOf (plE x e.1) : Nat) : Int) = some (.int (stp plE (m.items.take j) x (plE x e.1))) := by
        unfold atI
        rw [hix]
        show (List.map V.int (ys.map (stp plE (m.items.take j) x)))[ys.idxOf (plE x e.1)]? = _
        rw [List.getElem?_map, List.getElem?_map, hz] <;> rfl
      refine ⟨L, _, _, _, rfl, rfl, n8.its, hat, .int e.2, rfl, _, _, rfl, rfl, L, _, _, _, rfl, rfl, n8.its, hix, ?_⟩
      refine ⟨_, _, rfl, ?_⟩
      rw [line_set nd hj pm']
      exact n8.set trivial
    · rintro H5 σ' H6 e5 ⟨o11, o12, rfl, n5⟩
      rw [List.take_length] at n5
      have hq6 : H6 q = some (.lst vs) := n5.le.soft n3.its n3.so
      have vl : vs.length ≤ 100 := by
        rw [rv.length, List.length_take]
        omega
      refine ⟨.ref q, rfl, .inl ⟨rfl, _, .of hq6⟩, .ref L, rfl, q, vs, .ref L, rfl, rfl, hq6, sz_lt (by omega), ?_⟩
      refine ⟨_, _, _, _, _, rfl, (n3.go n5.le).set trivial, ?_⟩
      rw [hd_upd List.mem_cons_self]
      have hrow : (mSteps m ys).take (i + 1) = (mSteps m ys).take i ++ [ys.map (stp plE m.items x)] := by
        unfold mSteps matOf
        rw [List.take_add_one, List.getElem?_map, hi] <;> rfl
      rw [hrow]
      refine (rv.le ((e3.trans n5.le).hd n.s.dom)).append (.one (rep_lst (xs := List.map V.int (ys.map (stp plE m.items x))) ?_ (repAll_ints _)))
      rw [hd_out nL]
      exact n5.its
  · rintro H2 σ' H' e2 ⟨o9, o10, o11, o12, vs, rfl, n, rv⟩
    have hlen : (mSteps m ys).length = ys.length := matOf_len
    rw [← hlen, List.take_length] at rv
    have lA := n.le.hd d0
    refine law_B (row.go n.le) ⟨fm.le lA, fx.le lA, fy.le lA, rep_lst (xs := vs) ?_ rv.shown, ft.le lA⟩ ok hQ
    rw [hd_out n.np]
    exact n.its
end K4
end
section
set_option Elab.async false
set_option linter.all false
set_option maxRecDepth 100000
set_option maxHeartbeats 4000000
namespace K4
open PySem PySem.Spec PyProof.Rows L2 PySem.W
variable {P : Program} {w : World} {K : PySem.W.Frag} {mg : Str → Option Value} {base : Heap} {T : List (Addr × Str)}

/-- what the mathematics gives -/
def GoodAll : Prop := ∀ (r c : Int) (fs : Throws) (ys : List Pic), (r, c) ∈ boards → 1 ≤ fs.length → fs.length ≤ 5 → (∀ e ∈ fs, okThrow (r + c) e) → ys.Perm (mPics r c) → okD (mTold r c fs) ∧ OkS (mMeasure r c fs) ys ∧ (mMeasure r c fs).items.length ≤ 100 ∧ OkB r c (mMeasure r c fs) ys.length (mSteps (mMeasure r c fs) ys) (mWeight (mMeasure r c fs))
theorem board_small {r c : Int} (h : (r, c) ∈ boards) : 1 ≤ r ∧ r ≤ 3 ∧ 1 ≤ c ∧ c ≤ 3 ∧ r * c ≤ 4 := by
  have : ∀ b ∈ boards, 1 ≤ b.1 ∧ b.1 ≤ 3 ∧ 1 ≤ b.2 ∧ b.2 ≤ 3 ∧ b.1 * b.2 ≤ 4 := by decide
  exact this _ h
theorem pure_law (good : GoodAll) (vs : List V) (H : Hp) (Q : VK) (E : XK) (h : sp_law K T vs H Q E) : t_law K T { nx := fun _ H' => Q .non H', rt := Q } (start n_law vs) H := by
  obtain ⟨sc, xs, rfl, hsc, tb, hQ⟩ := h
  have hI : ∀ {σ : L2.St} {G : Hp} {i : Int} {k : Nat}, σ[k]? = some (some (.int i)) → EvR T (tVar k) σ G i := fun h => ev_var h rep_int
  refine ⟨.ref sc, rfl, by show (4 : Nat) ≤ sizeLine; decide, fun p hp => ?_⟩
  have d0 : Dom [] H := fun b h => nomatch h
  have n0 : MS T [] (hd [] H) H p (rowO sc 0 5704 0) (upd H p (rowO sc 0 5704 0)) := MS.init d0 .same (fun h => nomatch h) (Le.new hp) (le_hide_new (T := T) (G := hd [] H) ⟨d0, .same⟩ hp) upd_same trivial
  have row0 : RowS K T [] (hd [] H) H p sc xs (upd H p (rowO sc 0 5704 0)) := ⟨0, 5704, 0, n0, by decide, by rw [hd_nil]; exact hsc⟩
  generalize upd H p (.lst [.ref sc, .int 0, .int 5704, .int 0]) = H1 at row0 ⊢
  refine ⟨.ref p, rfl, [], hd [] H, H, p, sc, xs, rfl, row0, fun w x H2 n2 hx rx le2 => ?_⟩
  obtain ⟨r, c⟩ := x
  refine g_pair rx fun vr vc rr rc => ?_
  obtain rfl := of_int rr
  obtain rfl := of_int rc
  obtain ⟨b1, b2, b3, b4, b5⟩ := board_small hx
  refine ⟨.int r, rfl, .int c, rfl, .ref p, rfl, .int r, rfl, .int c, rfl, [], hd [] H, H, p, sc, xs, r, c, 5, rfl, n2, by omega, by omega, by decide, by decide, fun F fs H3 n3 rF l1 l5 okF le3 => ?_⟩
  have l5' : fs.length ≤ 5 := by omega
  obtain ⟨gd, _⟩ := good r c fs _ hx l1 l5' okF (.refl _)
  refine ⟨[p], .int r, .int c, .ref F, r, c, fs, n3.ms.dom, rfl, rep_int, rep_int, rF, ⟨by omega, fun e he => by have := (okF e he).1; omega, gd⟩, fun vm H4 e4 rm xm => ?_⟩
  have n4 := n3.go e4
  have s4 := n4.ms.up
  refine ⟨.int r, rfl, .int c, rfl, [p], r, c, n4.ms.dom, rfl, ⟨by omega, by omega, by omega, by omega, by omega⟩, fun vy ys H5 e5 perm ry => ?_⟩
  obtain ⟨_, os, ml, ok⟩ := good r c fs ys hx l1 l5' okF perm
  generalize mMeasure r c fs = m at *
  have n5 := n4.go e5
  have l5m := e5.hd n4.ms.dom
  have hW : EvR T (tCall (sp_law_whole K T) [] E0 (tCons (tVar 4) tNil)) [some (.ref sc), some (.ref p), some (.int r), some (.int c), some vm, none, none, none, none, none, none, none, none, none, none, none, none, none, none, none, none, none, none, none, none, none, none, none, none] (hd [p] H5) (mWeight m) := ev_call1 (ev_var rfl (rm.le l5m)) (by omega)
  refine hW [p] H5 n5.ms.up _ fun vw H6 e6 r6 => ⟨by show (2 : Nat) ≤ sizeLine; decide, fun t ht => ⟨t, _, rfl, .inl (.inl upd_same), rfl, vy, [vw], rfl, vw, [], rfl, rfl, ?_⟩⟩
  obtain rfl := of_int r6
  have n7 := (n5.go e6).go (Le.new (T := T) (o := .tup [vy, .int (mWeight m)]) ht)
  have e57 : Le T H5 (upd H6 t (.tup [vy, .int (mWeight m)])) := e6.trans (.new ht)
  have l57 := e57.hd n5.ms.dom
  generalize upd H6 t (.tup [vy, .int (mWeight m)]) = H7 at n7 e57 l57 ⊢
  have ry7 := ry.le l57
  have hN : EvR T (tCB (rLenS K) (tCons (tVar 5) tNil)) [some (.ref sc), some (.ref p), some (.int r), some (.int c), some vm, some vy, some (.int (mWeight m)), none, none, none, none, none, none, none, none, none, none, none, none, none, none, none, none, none, none, none, none, none, none] (hd [p] H7) (ys.length : Int) := ev_lenL (ev_var rfl ry7)
  refine hN [p] H7 n7.ms.up _ fun vn H8 e8 r8 => ⟨by show (0 : Nat) ≤ sizeLine; decide, fun q hq => ⟨by show (2 : Nat) ≤ sizeLine; decide, fun t2 ht2 => ⟨t2, _, rfl, .inl (.inl upd_same), rfl, vn, [.ref q], rfl, .ref q, [], rfl, rfl, ?_⟩⟩⟩
  obtain rfl := of_int r8
  have n8 := n7.go e8
  have s8 := n8.ms.up
  have l8 := l57.trans (e8.hd n7.ms.dom)
  have sD := s8.hide (o := .lst []) hq trivial
  have nq : MS T [p] (hd [p] H8) H8 q (.lst []) (upd (upd H8 q (.lst [])) t2 (.tup [.int (ys.length : Int), .ref q])) := MS.init n8.ms.dom .same (s8.fresh hq) ((Le.new hq).trans (.new ht2)) ((le_hide_new s8 hq).trans ((Le.new (T := T) ht2).hd sD.dom)) (by rw [upd_ne (fun z => by rw [z, upd_same] at ht2; cases ht2), upd_same] <;> rfl) trivial
  exact law_A n8 ((rm.le l5m).le l8) ((xm.le l5m).le l8) (ry.le l8) (GT.of (n8.le.tab tb) n8.ms.dom) nq os ml ok hQ
theorem len_law {ps : List Str} (h : ps.length = 1) : ∀ vs H Q E, sp_law K T vs H Q E → vs.length = ps.length := fun vs H Q E q => by
  obtain ⟨sc, xs, rfl, _⟩ := q
  exact h.symm
end K4
end
section
set_option Elab.async false
set_option linter.all false
set_option maxRecDepth 100000
set_option maxHeartbeats 4000000
namespace K4
open PySem PySem.Spec PyProof.Rows L2 PySem.W
/-! the told measure -/
theorem dedupT_mem {x : Tup Int} : ∀ {xs : List (Tup Int)}, x ∈ dedupT xs ↔ x ∈ xs
  | [] => Iff.rfl
  | y :: ys => by
    unfold dedupT
    by_cases h : y ∈ ys
    · rw [if_pos h, dedupT_mem, List.mem_cons]
      exact ⟨.inr, fun z => z.elim (fun e => e ▸ h) id⟩
    · rw [if_neg h, List.mem_cons, List.mem_cons, dedupT_mem]
theorem lists_mem (ls : List Int) : ∀ (n : Nat) (l : List Int), l.length ≤ n → (∀ x ∈ l, x ∈ ls) → l ∈ lists ls n
  | 0, [], _, _ => List.mem_cons_self
  | 0, x :: l, h, _ => by simp at h
  | n + 1, [], _, _ => List.mem_cons_self
  | n + 1, x :: l, h, hx => by
    unfold lists
    refine List.mem_cons_of_mem _ (List.mem_flatMap.mpr ⟨l, lists_mem ls n l (by simpa using h) fun y hy => hx y (List.mem_cons_of_mem _ hy), List.mem_map.mpr ⟨x, hx x List.mem_cons_self, rfl⟩⟩)
theorem mem_rng {n : Nat} {x : Int} (h0 : 0 ≤ x) (h1 : x < n) : x ∈ rng 0 n := by
  unfold rng
  exact List.mem_map.mpr ⟨x.toNat, List.mem_range.mpr (by omega), by omega⟩
theorem effs_mem {r c : Int} {l : List Int} (h : l.length ≤ 4) (hr : ∀ x ∈ l, 0 ≤ x ∧ x < r + c) : mLNormal r c l ∈ effs r c :=
  dedupT_mem.mpr (List.mem_map.mpr ⟨l, lists_mem _ 4 l h fun x hx => mem_rng (hr x hx).1 (by have := hr x hx; omega), rfl⟩)
def chkEff (b : Int × Int) : Bool := (effs b.1 b.2).all fun e => decide (e.items.length ≤ 4) && e.items.all (fun x => decide (0 ≤ x) && decide (x < b.1 + b.2)) && mStrokes b.1 b.2 e.items && decide (mNormal b.1 b.2 e.items = e) && decide ((suppE b.1 b.2 e).length ≤ 4) && subL (suppE b.1 b.2 e) (rng 0 (b.1 + b.2).toNat)
set_option maxHeartbeats 0 in
theorem chkEff_all : boards5.all chkEff = true := by decide +kernel
theorem boards_in {b : Int × Int} (h : b ∈ boards) : b ∈ boards5 := by
  revert h b
  decide
/-! the shared divisor -/
theorem shared_dvd : ∀ (m : DMeas) (s : Int), (m.foldl (fun s e => mGcd e.2 s) s ∣ s) ∧ ∀ e ∈ m, m.foldl (fun s e => mGcd e.2 s) s ∣ e.2
  | [], s => ⟨Int.dvd_refl _, fun e h => nomatch h⟩
  | x :: m, s => by
    obtain ⟨h1, h2⟩ := shared_dvd m (mGcd x.2 s)
    refine ⟨Int.dvd_trans h1 (by unfold mGcd; exact Int.gcd_dvd_right ..), fun e he => ?_⟩
    rcases List.mem_cons.mp he with rfl | he
    · exact Int.dvd_trans h1 (by unfold mGcd; exact Int.gcd_dvd_left ..)
    · exact h2 e he
theorem shared_max {x : Int} : ∀ (m : DMeas) (s : Int), x ∣ s → (∀ e ∈ m, x ∣ e.2) → x ∣ m.foldl (fun s e => mGcd e.2 s) s
  | [], s, h, _ => h
  | e :: m, s, h, hm => shared_max m _ (by unfold mGcd; exact Int.dvd_coe_gcd (hm e List.mem_cons_self) h) fun y hy => hm y (List.mem_cons_of_mem _ hy)
/-- the told dict -/
theorem told_eq (r c : Int) (fs : Throws) : mTold r c fs = (fs.map fun e => (mLNormal r c e.1, e.2)).foldl (fun f x => addD f x.1 x.2) [] := by
  unfold mTold
  rw [List.foldl_map] <;> rfl
structure Told (r c : Int) (fs : Throws) (d : DMeas) : Prop where
  nd : (d.map (·.1)).Nodup
  pos : ∀ e ∈ d, 0 < e.2
  E : ∀ e ∈ d, e.1 ∈ effs r c
  ne : d ≠ []
  len : d.length ≤ 5
  sum : (d.map (·.2)).sum ≤ 20
theorem told_facts {r c : Int} {fs : Throws} (l1 : 1 ≤ fs.length) (l5 : fs.length ≤ 5) (ok : ∀ e ∈ fs, okThrow (r + c) e) : Told r c fs (mTold r c fs) := by
  have hp : ∀ e ∈ fs.map fun e => (mLNormal r c e.1, e.2), 0 < e.2 := fun e he => by
    obtain ⟨x, hx, rfl⟩ := List.mem_map.mp he
    have := (ok x hx).2.2.1
    show 0 < x.2
    omega
  obtain ⟨h1, h2, h3, h4⟩ := addD_fold (fs.map fun e => (mLNormal r c e.1, e.2)) ([] : DMeas) List.nodup_nil (fun e h => nomatch h) hp
  rw [← told_eq] at h1 h2 h3 h4
  refine ⟨h1, h2, fun e he => ?_, ?_, ?_, ?_⟩
  · rcases (h3 e.1).mp (List.mem_map.mpr ⟨e, he, rfl⟩) with h | h
    · cases h
    · rw [List.map_map] at h
      obtain ⟨x, hx, e1⟩ := List.mem_map.mp h
      rw [← e1]
      obtain ⟨a1, a2, _⟩ := ok x hx
      exact effs_mem (by omega) a2
  · intro z
    obtain ⟨x, hx⟩ := List.exists_mem_of_length_pos (l := fs) (by omega)
    have := (h3 (mLNormal r c x.1)).mpr (.inr (by rw [List.map_map]; exact List.mem_map.mpr ⟨x, hx, rfl⟩))
    rw [z] at this
    cases this
  · have := told_len r c fs []
    have h5 : (mTold r c fs).length ≤ 0 + fs.length := this
    omega
  · have h5 := h4 fun _ => 1
    simp only [Int.mul_one, List.map_nil, List.sum_nil, Int.zero_add] at h5
    have h6 : ∀ l : Throws, (∀ e ∈ l, okThrow (r + c) e) → ((l.map fun e => (mLNormal r c e.1, e.2)).map fun e => e.2).sum ≤ 4 * (l.length : Int) := fun l => by
      induction l with
      | nil => intro _; simp
      | cons x l ih =>
        intro h
        have := ih fun e he => h e (List.mem_cons_of_mem _ he)
        have h7 := (h x List.mem_cons_self).2.2.2
        simp only [List.map_cons, List.sum_cons, List.length_cons]
        omega
    have := h6 fs ok
    have e1 : ((mTold r c fs).map fun e => e.2) = (mTold r c fs).map (·.2) := rfl
    rw [h5]
    omega
/-! the measure -/
def mKeys (d : DMeas) : List (Tup Int) := (lsort (d.map fun e => e.1.items)).map Tup.mk
theorem mk_items (l : List (Tup Int)) : (l.map fun e => e.items).map Tup.mk = l := by
  rw [List.map_map]
  have : (Tup.mk ∘ fun e : Tup Int => e.items) = id := by funext e; cases e; rfl
  rw [this, List.map_id]
theorem keys_perm (d : DMeas) : (mKeys d).Perm (d.map (·.1)) := by
  have h := (lsort_perm (d.map fun e => e.1.items)).map Tup.mk
  have e : (d.map fun e => e.1.items) = (d.map (·.1)).map fun e => e.items := by rw [List.map_map]; rfl
  unfold mKeys
  rw [e, mk_items] at h
  rw [e]
  exact h
theorem valD_of {d : DMeas} (nd : (d.map (·.1)).Nodup) {e : Tup Int × Int} (h : e ∈ d) : valD d e.1 = e.2 := by
  unfold valD
  rw [getD_nodup nd h] <;> rfl
theorem tidied_perm {d : DMeas} (nd : (d.map (·.1)).Nodup) : (mTidied d).items.Perm (d.map fun e => (e.1, e.2 / mShared d)) := by
  have h := (keys_perm d).map fun k => (k, valD d k / mShared d)
  rw [List.map_map] at h
  have e : d.map ((fun k => (k, valD d k / mShared d)) ∘ fun x => x.1) = d.map fun e => (e.1, e.2 / mShared d) := List.map_congr_left fun e he => by
    show (e.1, valD d e.1 / mShared d) = _
    rw [valD_of nd he]
  rw [e] at h
  exact h
/-- what is known of the measure -/
structure MOk (r c : Int) (m : Meas) : Prop where
  nd : (m.items.map (·.1)).Nodup
  E : ∀ e ∈ m.items, e.1 ∈ effs r c
  pos : ∀ e ∈ m.items, 1 ≤ e.2
  ne : 1 ≤ m.items.length
  len : m.items.length ≤ 5
  sum : mWeight m ≤ 20
  srt : (m.items.map (·.1.items)).Pairwise fun x y => HT.lexLt x y = true
  shared : mShared m.items = 1
theorem measure_ok {r c : Int} {fs : Throws} (l1 : 1 ≤ fs.length) (l5 : fs.length ≤ 5) (ok : ∀ e ∈ fs, okThrow (r + c) e) : MOk r c (mMeasure r c fs) := by
  have t := told_facts l1 l5 ok
  unfold mMeasure
  generalize mTold r c fs = d at t
  obtain ⟨nd, pos, hE, ne, len, sum⟩ := t
  have pm := tidied_perm nd
  obtain ⟨g0, g1, g2⟩ := shared_go d 0 (by decide) fun e he => (by have := pos e he; omega)
  have gp : 0 < mShared d := g1 ne
  have gd : ∀ e ∈ d, mShared d ∣ e.2 := (shared_dvd d 0).2
  have pk : ((mTidied d).items.map (·.1)).Perm (d.map (·.1)) := by
    have := pm.map (·.1)
    rw [List.map_map] at this
    exact this
  have p1 : ∀ e ∈ d, 1 ≤ e.2 / mShared d := fun e he => by
    have := Int.ediv_pos_of_pos_of_dvd (pos e he) (Int.le_of_lt gp) (gd e he)
    omega
  refine ⟨pk.nodup_iff.mpr nd, fun e he => ?_, fun e he => ?_, ?_, ?_, ?_, ?_, ?_⟩
  · obtain ⟨x, hx, e1⟩ := List.mem_map.mp (pm.mem_iff.mp he)
    rw [← e1]
    exact hE x hx
  · obtain ⟨x, hx, e1⟩ := List.mem_map.mp (pm.mem_iff.mp he)
    rw [← e1]
    exact p1 x hx
  · rw [pm.length_eq, List.length_map]
    exact List.length_pos_iff.mpr ne
  · rw [pm.length_eq, List.length_map]
    exact len
  · have h1 : mWeight (mTidied d) = (d.map fun e => e.2 / mShared d).sum := by
      unfold mWeight
      have := perm_sum (pm.map (·.2))
      rw [List.map_map] at this
      exact this
    rw [h1]
    refine Int.le_trans ?_ sum
    clear pm sum
    have : ∀ l : DMeas, (∀ e ∈ l, 0 < e.2) → (l.map fun e => e.2 / mShared d).sum ≤ (l.map (·.2)).sum := fun l => by
      induction l with
      | nil => intro _; exact Int.le_refl _
      | cons x l ih =>
        intro h
        have h2 := ih fun e he => h e (List.mem_cons_of_mem _ he)
        have h3 := h x List.mem_cons_self
        have h4 : x.2 / mShared d ≤ x.2 := Int.ediv_le_self _ (by omega)
        simp only [List.map_cons, List.sum_cons]
        omega
    exact this d pos
  · have e1 : (mTidied d).items.map (·.1.items) = lsort (d.map fun e => e.1.items) := by
      show ((((lsort (d.map fun e => e.1.items)).map Tup.mk).map fun k => (k, valD d k / mShared d)).map (·.1.items)) = _
      rw [List.map_map, List.map_map]
      exact List.map_id' _
    rw [e1]
    have s1 := lsort_sorted (d.map fun e => e.1.items)
    have n1 : (lsort (d.map fun e => e.1.items)).Nodup := by
      rw [(lsort_perm _).nodup_iff]
      have e2 : (d.map fun e => e.1.items) = (d.map (·.1)).map fun e => e.items := by rw [List.map_map]; rfl
      rw [e2]
      refine List.Pairwise.map _ (fun a b h z => h ?_) nd
      cases a; cases b
      exact congrArg Tup.mk z
    refine (List.Pairwise.and s1 n1).imp fun {a b} h => ?_
    cases hl : HT.lexLt a b with
    | true => rfl
    | false => exact absurd (lex_eq a b hl h.1) h.2
  · have sp := shared_go (mTidied d).items 0 (by decide) fun e he => by
      obtain ⟨x, hx, e1⟩ := List.mem_map.mp (pm.mem_iff.mp he)
      rw [← e1]
      exact p1 x hx
    have ne2 : (mTidied d).items ≠ [] := fun z => by
      have := pm.length_eq
      rw [z, List.length_map] at this
      exact ne (List.length_eq_zero_iff.mp this.symm)
    have hp : 0 < mShared (mTidied d).items := sp.2.1 ne2
    have hd : ∀ e ∈ (mTidied d).items, mShared (mTidied d).items ∣ e.2 := (shared_dvd (mTidied d).items 0).2
    have hm : mShared (mTidied d).items * mShared d ∣ mShared d := shared_max d 0 (Int.dvd_zero _) fun e he => by
      have h1 := hd (e.1, e.2 / mShared d) (pm.mem_iff.mpr (List.mem_map.mpr ⟨e, he, rfl⟩))
      obtain ⟨q, hq⟩ := h1
      have h2 := Int.ediv_mul_cancel (gd e he)
      refine ⟨q, ?_⟩
      have hq' : e.2 / mShared d = mShared (mTidied d).items * q := hq
      rw [← h2, hq']
      ac_rfl
    have h3 := Int.le_of_dvd gp hm
    have h4 : mShared (mTidied d).items ≤ 1 := by
      refine Int.le_of_mul_le_mul_right ?_ gp
      rw [Int.one_mul]
      exact h3
    omega
end K4
end
section
set_option Elab.async false
set_option linter.all false
set_option maxRecDepth 100000
set_option maxHeartbeats 4000000
namespace K4
open PySem PySem.Spec PyProof.Rows L2 PySem.W
theorem cut_tail {α : Type} : ∀ l : List α, cut l (some 1) none = l.tail
  | [] => rfl
  | x :: xs => by
    unfold cut
    have h1 : HT.sIx (x :: xs).length 0 (some 1) = 1 := by
      have := HT.sIx_nat (x :: xs).length 0 1
      rw [List.length_cons] at this ⊢
      exact this.trans (by omega)
    rw [h1]
    show (xs.take ((xs.length + 1) - 1)) = xs
    rw [Nat.add_sub_cancel, List.take_length]
theorem zip_adj {α : Type} {R : α → α → Prop} : ∀ {l : List α}, l.Pairwise R → ∀ e ∈ l.zip l.tail, R e.1 e.2
  | [], _, e, h => nomatch h
  | [x], _, e, h => nomatch h
  | x :: y :: l, hp, e, h => by
    rw [List.pairwise_cons] at hp
    rcases List.mem_cons.mp (show e ∈ (x, y) :: (y :: l).zip l from h) with rfl | h
    · exact hp.1 y List.mem_cons_self
    · exact zip_adj hp.2 e h
theorem mem_le_sum {β : Type} (f : β → Int) : ∀ {l : List β}, (∀ x ∈ l, 0 ≤ f x) → ∀ x ∈ l, f x ≤ (l.map f).sum
  | [], _, x, h => nomatch h
  | y :: l, hp, x, h => by
    have h0 := hp y List.mem_cons_self
    have h1 := fun z hz => hp z (List.mem_cons_of_mem y hz)
    have h2 : 0 ≤ (l.map f).sum := by
      have := sum_le (f := fun _ : β => (0 : Int)) (g := f) h1
      rw [sum_zero] at this
      exact this
    simp only [List.map_cons, List.sum_cons]
    rcases List.mem_cons.mp h with rfl | h
    · omega
    · have := mem_le_sum f h1 x h
      omega
section
variable {r c : Int} {m : Meas}
theorem chk_at {α : Type} {f : α → Bool} {l : List α} (h : l.all f = true) {x : α} (hx : x ∈ l) : f x = true := List.all_eq_true.mp h x hx
structure EffOk (r c : Int) (e : Tup Int) : Prop where
  len : e.items.length ≤ 4
  rg : ∀ x ∈ e.items, 0 ≤ x ∧ x < r + c
  st : mStrokes r c e.items = true
  nr : mNormal r c e.items = e
  sl : (suppE r c e).length ≤ 4
  sf : subL (suppE r c e) (rng 0 (r + c).toNat) = true
theorem eff_ok (hb : (r, c) ∈ boards5) {e : Tup Int} (h : e ∈ effs r c) : EffOk r c e := by
  have := chk_at (chk_at chkEff_all hb) h
  simp only [Bool.and_eq_true, decide_eq_true_eq, List.all_eq_true] at this
  obtain ⟨⟨⟨⟨⟨h1, h2⟩, h3⟩, h4⟩, h5⟩, h6⟩ := this
  exact ⟨h1, h2, h3, h4, h5, h6⟩
theorem MOk.wpos (M : MOk r c m) : 0 < mWeight m := by
  obtain ⟨e, he⟩ := List.exists_mem_of_length_pos (l := m.items) (by have := M.ne; omega)
  have := mem_le_sum (fun e : Tup Int × Int => e.2) (fun x hx => by have := M.pos x hx; omega) e he
  have h2 := M.pos e he
  unfold mWeight
  have e1 : m.items.map (fun e : Tup Int × Int => e.2) = m.items.map (·.2) := rfl
  omega
theorem MOk.wle (M : MOk r c m) {e : Tup Int × Int} (he : e ∈ m.items) : e.2 ≤ 20 := by
  have := mem_le_sum (fun e : Tup Int × Int => e.2) (fun x hx => by have := M.pos x hx; omega) e he
  have h2 := M.sum
  unfold mWeight at h2
  have e1 : m.items.map (fun e : Tup Int × Int => e.2) = m.items.map (·.2) := rfl
  omega
theorem MOk.dict (M : MOk r c m) : dictOf m.items = m.items := by
  unfold dictOf
  have := refold m.items [] (by simpa using M.nd)
  simpa using this
theorem MOk.okD (M : MOk r c m) : okD m.items := by
  refine ⟨M.nd, fun z => ?_, by have := M.len; omega, fun e he => ⟨M.pos e he, by have := M.wle he; unfold B30; omega⟩⟩
  have := M.ne
  rw [z] at this
  simp at this
theorem MOk.tidied (M : MOk r c m) : mTidied m.items = m := by
  have hs : lsort (m.items.map fun e => e.1.items) = m.items.map fun e => e.1.items := by
    refine (lsort_uniq (.refl _) ?_).symm
    refine M.srt.imp fun {a b} h => ?_
    cases hl : HT.lexLt b a with
    | false => rfl
    | true =>
      exfalso
      have asym : ∀ x y : List Int, HT.lexLt x y = true → HT.lexLt y x = true → False := by
        intro x
        induction x with
        | nil => intro y h1 h2; cases y <;> simp [HT.lexLt] at h1 h2
        | cons a x ih =>
          intro y h1 h2
          cases y with
          | nil => simp [HT.lexLt] at h1
          | cons b y =>
            rw [HT.lexLt_cons] at h1 h2
            by_cases e : a = b
            · subst e
              rw [if_pos rfl] at h1 h2
              exact ih y h1 h2
            · rw [if_neg e] at h1
              rw [if_neg fun z => e z.symm] at h2
              have := of_decide_eq_true h1
              have := of_decide_eq_true h2
              omega
      exact asym a b h hl
  have h1 : mTidied m.items = Tup.mk m.items := by
    unfold mTidied
    rw [hs, M.shared]
    congr 1
    rw [List.map_map, List.map_map]
    have : m.items.map (((fun k => (k, valD m.items k / 1)) ∘ Tup.mk) ∘ fun e => e.1.items) = m.items.map id := List.map_congr_left fun e he => by
      show (e.1, valD m.items e.1 / 1) = e
      rw [valD_of M.nd he, Int.ediv_one]
    rw [List.map_id] at this
    exact this
  exact h1
theorem MOk.okMeas (M : MOk r c m) (hb : (r, c) ∈ boards5) : okMeas r c m := by
  refine ⟨M.ne, by have := M.len; omega, fun e he => ?_, ?_, ?_, ?_⟩
  · have h := eff_ok hb (M.E e he)
    exact ⟨⟨by have := h.len; omega, h.st, h.nr⟩, M.pos e he, by have := M.wle he; unfold B30; omega⟩
  · rw [List.all_map, List.all_eq_true]
    intro e he
    rw [cut_tail] at he
    have hp : m.items.Pairwise fun x y => HT.lexLt x.1.items y.1.items = true := List.pairwise_map.mp M.srt
    exact zip_adj hp e he
  · rw [M.dict]
    exact M.okD
  · rw [M.dict]
    exact M.tidied
end
end K4
end
section
set_option Elab.async false
set_option linter.all false
set_option maxRecDepth 100000
set_option maxHeartbeats 4000000
namespace K4
open PySem PySem.Spec PyProof.Rows L2 PySem.W
/-! the values -/
abbrev leX (r c : Int) (e : Tup Int) (X : List Int) : Bool := subL (suppE r c e) X
abbrev leU (r c : Int) (e u : Tup Int) : Bool := subL (suppE r c e) (suppE r c u)
theorem subL_iff {a b : List Int} : subL a b = true ↔ ∀ x ∈ a, x ∈ b := by
  unfold subL
  rw [List.all_eq_true]
  exact ⟨fun h x hx => of_decide_eq_true (h x hx), fun h x hx => decide_eq_true (h x hx)⟩
theorem subL_trans {a b d : List Int} (h1 : subL a b = true) (h2 : subL b d = true) : subL a d = true := by
  rw [subL_iff] at *
  exact fun x hx => h2 x (h1 x hx)
theorem filter_sum {β : Type} (p : β → Bool) (f : β → Int) : ∀ l : List β, ((l.filter p).map f).sum = (l.map fun x => if p x = true then f x else 0).sum
  | [] => rfl
  | x :: l => by
    rw [List.filter_cons, List.map_cons, List.sum_cons, ← filter_sum p f l]
    cases p x <;> simp
theorem key_in (X : List Int) (l : Int) : (getD' (keysD X) l).isSome = decide (l ∈ X) := by
  have h := (keysD_go X [] List.nodup_nil).2.1 l
  have h' : l ∈ (keysD X).map (·.1) ↔ l ∈ X := h.trans ⟨fun z => z.elim id fun z => (nomatch z), .inl⟩
  by_cases hx : l ∈ X
  · obtain ⟨v, hv⟩ := getD'_some (h'.mpr hx)
    rw [hv, decide_eq_true hx] <;> rfl
  · rw [get_none fun z => hx (h'.mp z), decide_eq_false hx] <;> rfl
section
variable {r c : Int} {m : Meas}
theorem within_val (X : List Int) : mWithin r c m X = valX m.items (leX r c) X := by
  unfold mWithin valX wt
  rw [filter_sum]
  have : ∀ e ∈ m.items, (if ((mSupport r c e.1.items).items.map fun l => (getD' (keysD X) l).isSome).all id = true then e.2 else 0) = if leX r c e.1 X = true then e.2 else 0 := fun e _ => by
    have h : ((mSupport r c e.1.items).items.map fun l => (getD' (keysD X) l).isSome).all id = leX r c e.1 X := by
      unfold leX subL suppE
      rw [List.all_map]
      refine congrArg _ ?_
      funext l
      exact key_in X l
    rw [h]
  rw [sum_congr this]
  rfl
theorem lwithin_val (X : Tup Int) : mLWithin r c m X = valX m.items (leX r c) X.items := by
  unfold mLWithin valX wt
  rw [filter_sum]
  have : ∀ e ∈ m.items, (if decide (((mSupport r c e.1.items).items.filter fun l => !decide (l ∈ X.items)) = []) = true then e.2 else 0) = if leX r c e.1 X.items = true then e.2 else 0 := fun e _ => by
    have h : decide (((mSupport r c e.1.items).items.filter fun l => !decide (l ∈ X.items)) = []) = leX r c e.1 X.items := by
      rw [Bool.eq_iff_iff, decide_eq_true_iff, List.filter_eq_nil_iff, subL_iff]
      refine ⟨fun h x hx => ?_, fun h x hx z => ?_⟩
      · have := h x hx
        simpa using this
      · have h1 := h x hx
        rw [decide_eq_true h1] at z
        cases z
    rw [h]
  rw [sum_congr this]
  rfl
/-- bounds of a weight -/
theorem wt_b (M : MOk r c m) (X : List Int) : 0 ≤ wt m.items (leX r c) X ∧ wt m.items (leX r c) X ≤ wAll m.items := by
  unfold wt wAll
  refine ⟨?_, sum_le (f := fun e : Tup Int × Int => if leX r c e.1 X = true then e.2 else 0) (g := fun e => e.2) fun e he => ?_⟩
  · have := sum_le (f := fun _ : Tup Int × Int => (0 : Int)) (g := fun e => if leX r c e.1 X = true then e.2 else 0) (l := m.items) fun e he => by
      have := M.pos e he
      split <;> omega
    rw [sum_zero] at this
    exact this
  · have := M.pos e he
    split <;> omega
/-- bounds of a value -/
structure VB (v : Int × Int) : Prop where
  r : Red v
  d : v.2 ≤ 20
  n1 : -20 ≤ v.1
  n2 : v.1 ≤ 20
  le : v.1 ≤ v.2
theorem vb (M : MOk r c m) (X : List Int) : VB (valX m.items (leX r c) X) := by
  obtain ⟨h1, h2⟩ := wt_b M X
  have wp : 0 < wAll m.items := M.wpos
  have ws : wAll m.items ≤ 20 := M.sum
  unfold valX
  generalize wt m.items (leX r c) X = L at *
  generalize wAll m.items = W at *
  have hr := mFr_red (a := L) wp
  have hn := mFr_num_le (a := L) wp
  have hd := mFr_den_le (a := L) wp
  have hi := mFr_is (a := L) wp
  refine ⟨hr, by omega, by omega, by omega, ?_⟩
  unfold Is at hi
  have h3 : (mFr L W).1 * W ≤ (mFr L W).2 * W := by
    rw [hi, Int.mul_comm (mFr L W).2 W]
    exact Int.mul_le_mul_of_nonneg_right h2 (Int.le_of_lt hr.1)
  exact Int.le_of_mul_le_mul_right h3 wp
theorem vb_one : VB (1, 1) := ⟨by decide, by decide, by decide, by decide, by decide⟩
theorem okOrd_of {β : Type} {d : List ((Int × Int) × β)} (len : d.length ≤ 100000) (h : ∀ e ∈ d, VB e.1) : okOrd d := by
  refine ⟨len, fun e he => ?_, fun i e he => ?_⟩
  · obtain ⟨hr, hd, n1, n2, _⟩ := h e he
    exact ⟨hr.1, cdiv1000 hr.1 (by omega), .inl ⟨by omega, by omega⟩⟩
  · obtain ⟨hr, hd, n1, n2, _⟩ := h e (List.mem_of_getElem? he)
    have := hr.1
    exact .inr ⟨by omega, by omega⟩
/-! the dict of values -/
def FXt (r c : Int) : List (List Int × Int) := (highsOf r).flatMap fun high => (widesOf r c).map fun wide => (high ++ wide, mTimesOf (r - high.length) (c - wide.length))
theorem FX_cons (r c : Int) : FX r c = (rng 0 (r + c).toNat, 1) :: FXt r c := rfl
theorem vals_fold : vbOut r c m (highsOf r).length = ((FXt r c).map fun X => (mWithin r c m X.1, X.2)).foldl (fun f x => addD f x.1 x.2) [((1, 1), 1)] := by
  unfold vbOut FXt
  rw [List.take_length, List.foldl_map, List.foldl_flatMap]
  congr 1
  funext f high
  rw [List.foldl_map]
  rfl
theorem fx_pos (hb : (r, c) ∈ boards5) : ∀ X ∈ FX r c, 0 < X.2 := fun X hX => by
  have := chk_at chkFX_all hb
  unfold chkFX at this
  rw [Bool.and_eq_true] at this
  exact of_decide_eq_true (chk_at this.1 hX)
theorem full_val (hb : (r, c) ∈ boards5) (M : MOk r c m) : valX m.items (leX r c) (rng 0 (r + c).toNat) = (1, 1) := by
  have h : wt m.items (leX r c) (rng 0 (r + c).toNat) = wAll m.items := by
    unfold wt wAll
    exact sum_congr (f := fun e : Tup Int × Int => if leX r c e.1 (rng 0 (r + c).toNat) = true then e.2 else 0) (g := fun e => e.2) fun e he => if_pos (eff_ok hb (M.E e he)).sf
  have wp : 0 < wAll m.items := M.wpos
  unfold valX
  rw [h]
  exact (is_mFr (p := (1, 1)) (by decide) wp (by unfold Is; simp)).symm
structure ValD (r c : Int) (m : Meas) (d : DVal) : Prop where
  nd : (d.map (·.1)).Nodup
  pos : ∀ e ∈ d, 0 < e.2
  mem : ∀ v, v ∈ d.map (·.1) ↔ ∃ X ∈ FX r c, v = valX m.items (leX r c) X.1
  sum : ∀ g : Int × Int → Int, (d.map fun e => e.2 * g e.1).sum = ((FX r c).map fun X => X.2 * g (valX m.items (leX r c) X.1)).sum
theorem vals_dict (hb : (r, c) ∈ boards5) (M : MOk r c m) : ValD r c m (vbOut r c m (highsOf r).length) := by
  have hp := fx_pos hb
  obtain ⟨h1, h2, h3, h4⟩ := addD_fold ((FXt r c).map fun X => (mWithin r c m X.1, X.2)) [((1, 1), 1)] (by simp) (fun e he => by rw [List.mem_singleton.mp he]; decide) fun e he => by
    obtain ⟨X, hX, rfl⟩ := List.mem_map.mp he
    exact hp X (by rw [FX_cons]; exact List.mem_cons_of_mem _ hX)
  rw [← vals_fold] at h1 h2 h3 h4
  refine ⟨h1, h2, fun v => ?_, fun g => ?_⟩
  · rw [h3 v, FX_cons]
    constructor
    · rintro (h | h)
      · refine ⟨_, List.mem_cons_self, ?_⟩
        rw [full_val hb M]
        simpa using h
      · rw [List.map_map] at h
        obtain ⟨X, hX, rfl⟩ := List.mem_map.mp h
        exact ⟨X, List.mem_cons_of_mem _ hX, within_val X.1⟩
    · rintro ⟨X, hX, rfl⟩
      rcases List.mem_cons.mp hX with rfl | hX
      · left
        rw [full_val hb M]
        simp
      · right
        rw [List.map_map]
        exact List.mem_map.mpr ⟨X, hX, within_val X.1⟩
  · rw [h4 g, FX_cons]
    simp only [List.map_cons, List.map_nil, List.sum_cons, List.sum_nil, Int.add_zero]
    rw [full_val hb M, List.map_map]
    congr 1
    exact sum_congr (f := (fun e : (Int × Int) × Int => e.2 * g e.1) ∘ fun X : List Int × Int => (mWithin r c m X.1, X.2)) fun X _ => by
      show X.2 * g (mWithin r c m X.1) = _
      rw [within_val]
theorem mVals_eq (hb : (r, c) ∈ boards5) (M : MOk r c m) : mVals r c m = vbOut r c m (highsOf r).length := by
  have h := vals_dict hb M
  unfold mVals
  rw [List.filter_eq_self.mpr fun e he => decide_eq_true (h.pos e he)]
  have := refold (vbOut r c m (highsOf r).length) [] (by simpa using h.nd)
  simpa using this
theorem mVals_dict (hb : (r, c) ∈ boards5) (M : MOk r c m) : ValD r c m (mVals r c m) := by
  rw [mVals_eq hb M]
  exact vals_dict hb M
theorem ValD.vb {d : DVal} (V : ValD r c m d) (M : MOk r c m) : ∀ e ∈ d, VB e.1 := fun e he => by
  obtain ⟨X, _, hX⟩ := (V.mem e.1).mp (List.mem_map.mpr ⟨e, he, rfl⟩)
  rw [hX]
  exact K4.vb M X.1
theorem vals_list (hb : (r, c) ∈ boards5) (M : MOk r c m) : Vals m.items (FX r c) (leX r c) (mOrd (mVals r c m)).items := by
  have V := mVals_dict hb M
  have pm := ord_perm (mVals r c m)
  refine ⟨ord_sorted V.nd fun e he => (V.vb M e he).r, fun v => ?_, fun g => ?_⟩
  · rw [(pm.map (·.1)).mem_iff]
    exact V.mem v
  · rw [perm_sum (pm.map fun e => e.2 * g e.1)]
    exact V.sum g
end
end K4
end
section
set_option Elab.async false
set_option linter.all false
set_option maxRecDepth 100000
set_option maxHeartbeats 4000000
namespace K4
open PySem PySem.Spec PyProof.Rows L2 PySem.W
/-! the joins -/
def dedupI : List (List Int) → List (List Int)
  | [] => []
  | x :: xs => if x ∈ xs then dedupI xs else x :: dedupI xs
theorem dedupI_mem {x : List Int} : ∀ {xs : List (List Int)}, x ∈ dedupI xs ↔ x ∈ xs
  | [] => Iff.rfl
  | y :: ys => by
    unfold dedupI
    by_cases h : y ∈ ys
    · rw [if_pos h, dedupI_mem, List.mem_cons]
      exact ⟨.inr, fun z => z.elim (fun e => e ▸ h) id⟩
    · rw [if_neg h, List.mem_cons, List.mem_cons, dedupI_mem]
def FL (r c : Int) : List (List Int) := dedupI ((effs r c).map (suppE r c))
def joinI (r c : Int) (a b : List Int) : List Int := (mSupport r c (a ++ b)).items
def chkJ (b : Int × Int) : Bool := decide ([] ∈ FL b.1 b.2) && (FL b.1 b.2).all fun x => decide (x.length ≤ 4) && ((FX b.1 b.2).any fun X => subL x X.1 && subL X.1 x) && (FL b.1 b.2).all fun y => decide (joinI b.1 b.2 x y ∈ FL b.1 b.2) && subL x (joinI b.1 b.2 x y) && subL y (joinI b.1 b.2 x y) && (FX b.1 b.2).all fun X => !(subL x X.1 && subL y X.1) || subL (joinI b.1 b.2 x y) X.1
def chkHW (b : Int × Int) : Bool := decide ((highsOf b.1).length ≤ 8) && decide ((widesOf b.1 b.2).length ≤ 8) && (highsOf b.1).all fun high => (widesOf b.1 b.2).all fun wide => decide ((0 ≤ b.1 - high.length ∧ b.1 - high.length ≤ 12) ∧ (0 ≤ b.2 - wide.length ∧ b.2 - wide.length ≤ 12) ∧ high.length + wide.length ≤ 12) && tmOk (b.1 - high.length) (b.2 - wide.length)
set_option maxHeartbeats 0 in
theorem chkJ_all : boards5.all chkJ = true := by decide +kernel
set_option maxHeartbeats 0 in
theorem chkHW_all : boards5.all chkHW = true := by decide +kernel
section
variable {r c : Int} {m : Meas}
theorem b5_b {h : (r, c) ∈ boards5} : 1 ≤ r ∧ r ≤ 3 ∧ 1 ≤ c ∧ c ≤ 3 := by
  have : ∀ b ∈ boards5, 1 ≤ b.1 ∧ b.1 ≤ 3 ∧ 1 ≤ b.2 ∧ b.2 ≤ 3 := by decide
  exact this _ h
theorem fl_nil (hb : (r, c) ∈ boards5) : [] ∈ FL r c := by
  have := chk_at chkJ_all hb
  unfold chkJ at this
  rw [Bool.and_eq_true] at this
  exact of_decide_eq_true this.1
theorem fl_one (hb : (r, c) ∈ boards5) {x : List Int} (hx : x ∈ FL r c) : x.length ≤ 4 ∧ ∃ X ∈ FX r c, subL x X.1 = true ∧ subL X.1 x = true := by
  have := chk_at chkJ_all hb
  unfold chkJ at this
  rw [Bool.and_eq_true] at this
  have := chk_at this.2 hx
  rw [Bool.and_eq_true, Bool.and_eq_true, decide_eq_true_iff, List.any_eq_true] at this
  obtain ⟨⟨h1, X, hX, h2⟩, _⟩ := this
  rw [Bool.and_eq_true] at h2
  exact ⟨h1, X, hX, h2⟩
theorem fl_join (hb : (r, c) ∈ boards5) {x y : List Int} (hx : x ∈ FL r c) (hy : y ∈ FL r c) : joinI r c x y ∈ FL r c ∧ subL x (joinI r c x y) = true ∧ subL y (joinI r c x y) = true ∧ ∀ X ∈ FX r c, subL x X.1 = true → subL y X.1 = true → subL (joinI r c x y) X.1 = true := by
  have := chk_at chkJ_all hb
  unfold chkJ at this
  rw [Bool.and_eq_true] at this
  have := chk_at this.2 hx
  rw [Bool.and_eq_true] at this
  have := chk_at this.2 hy
  rw [Bool.and_eq_true, Bool.and_eq_true, Bool.and_eq_true, decide_eq_true_iff] at this
  obtain ⟨⟨⟨h1, h2⟩, h3⟩, h4⟩ := this
  refine ⟨h1, h2, h3, fun X hX a b => ?_⟩
  have := chk_at h4 hX
  rw [a, b] at this
  simpa using this
theorem fl_eff {e : Tup Int} (h : e ∈ effs r c) : suppE r c e ∈ FL r c := dedupI_mem.mpr (List.mem_map.mpr ⟨e, h, rfl⟩)
/-! dicts of keys -/
theorem keys_fold {κ β γ : Type} [DecidableEq κ] (g : γ → κ) (v : β) : ∀ (ks : List γ) (f : List (κ × β)), (f.map (·.1)).Nodup → ((ks.foldl (fun f k => putD f (g k) v) f).map (·.1)).Nodup ∧ (∀ x, x ∈ (ks.foldl (fun f k => putD f (g k) v) f).map (·.1) ↔ x ∈ f.map (·.1) ∨ ∃ k ∈ ks, x = g k) ∧ (ks.foldl (fun f k => putD f (g k) v) f).length ≤ f.length + ks.length
  | [], f, nd => ⟨nd, fun x => by simp, by simp⟩
  | k :: ks, f, nd => by
    obtain ⟨h1, h2, h3⟩ := keys_fold g v ks (putD f (g k) v) (putD_nodup f _ _ nd)
    refine ⟨h1, fun x => ?_, ?_⟩
    · rw [List.foldl_cons, h2 x, putD_keys]
      constructor
      · rintro ((h | h) | ⟨k', hk, h⟩)
        · exact .inr ⟨k, List.mem_cons_self, h⟩
        · exact .inl h
        · exact .inr ⟨k', List.mem_cons_of_mem _ hk, h⟩
      · rintro (h | ⟨k', hk, h⟩)
        · exact .inl (.inr h)
        · rcases List.mem_cons.mp hk with rfl | hk
          · exact .inl (.inl h)
          · exact .inr ⟨k', hk, h⟩
    · have h4 : (putD f (g k) v).length ≤ f.length + 1 := by
        unfold putD
        split <;> simp
      rw [List.foldl_cons, List.length_cons]
      omega
/-- what the joins are, step by step -/
structure JN (r c : Int) (f : List (Tup Int × Bool)) (ones : List (Tup Int)) : Prop where
  nd : (f.map (·.1)).Nodup
  fl : ∀ k ∈ f.map (·.1), k.items ∈ FL r c
  X : ∀ X ∈ FX r c, ∃ k ∈ f.map (·.1), subL k.items X.1 = true ∧ ∀ e ∈ ones, leX r c e X.1 = true → subL (suppE r c e) k.items = true
theorem joins_go (hb : (r, c) ∈ boards5) : ∀ (more ones : List (Tup Int)) (f : List (Tup Int × Bool)), (∀ e ∈ more, e ∈ effs r c) → JN r c f ones → JN r c (more.foldl (joinStep r c) f) (ones ++ more) ∧ (more.foldl (joinStep r c) f).length ≤ f.length * 2 ^ more.length
  | [], ones, f, _, h => by simpa using h
  | e :: more, ones, f, he, h => by
    have hE := fl_eff (he e List.mem_cons_self)
    obtain ⟨k1, k2, k3⟩ := keys_fold (fun each : Tup Int => mSupport r c (each.items ++ (mSupport r c e.items).items)) true (f.map (·.1)) f h.nd
    have step : JN r c (joinStep r c f e) (ones ++ [e]) := by
      refine ⟨k1, fun k hk => ?_, fun X hX => ?_⟩
      · rcases (k2 k).mp hk with hk' | ⟨each, hk', rfl⟩
        · exact h.fl k hk'
        · exact (fl_join hb (h.fl each hk') hE).1
      · obtain ⟨k, hk, hs, hq⟩ := h.X X hX
        by_cases hle : leX r c e X.1 = true
        · obtain ⟨j1, j2, j3, j4⟩ := fl_join hb (h.fl k hk) hE
          refine ⟨_, (k2 _).mpr (.inr ⟨k, hk, rfl⟩), j4 X hX hs hle, fun e' he' hl => ?_⟩
          rcases List.mem_append.mp he' with hm | hm
          · exact subL_trans (hq e' hm hl) j2
          · rw [List.mem_singleton.mp hm]
            exact j3
        · refine ⟨k, (k2 _).mpr (.inl hk), hs, fun e' he' hl => ?_⟩
          rcases List.mem_append.mp he' with hm | hm
          · exact hq e' hm hl
          · rw [List.mem_singleton.mp hm] at hl
            exact absurd hl hle
    obtain ⟨g1, g2⟩ := joins_go hb more (ones ++ [e]) (joinStep r c f e) (fun e' h' => he e' (List.mem_cons_of_mem _ h')) step
    rw [List.append_assoc] at g1
    refine ⟨g1, ?_⟩
    have k4 : (joinStep r c f e).length ≤ f.length * 2 := by
      have : (joinStep r c f e).length ≤ f.length + (f.map (·.1)).length := k3
      rw [List.length_map] at this
      omega
    have := Nat.mul_le_mul_right (2 ^ more.length) k4
    rw [List.foldl_cons, List.length_cons, Nat.pow_succ, Nat.mul_comm (2 ^ more.length) 2, ← Nat.mul_assoc]
    omega
theorem jn_zero (hb : (r, c) ∈ boards5) : JN r c [(Tup.mk [], true)] [] := by
  refine ⟨by simp, fun k hk => ?_, fun X hX => ⟨Tup.mk [], by simp, rfl, fun e h => nomatch h⟩⟩
  have : k = Tup.mk [] := by simpa using hk
  rw [this]
  exact fl_nil hb
theorem joins_at (hb : (r, c) ∈ boards5) (M : MOk r c m) {ones : List (Tup Int)} (h : ∀ e ∈ ones, e ∈ m.items.map (·.1)) (l : ones.length ≤ 5) : JN r c (joinsN r c ones) ones ∧ (joinsN r c ones).length ≤ 32 := by
  obtain ⟨h1, h2⟩ := joins_go hb ones [] [(Tup.mk [], true)] (fun e he => by
    obtain ⟨x, hx, rfl⟩ := List.mem_map.mp (h e he)
    exact M.E x hx) (jn_zero hb)
  refine ⟨h1, ?_⟩
  have := Nat.pow_le_pow_right (show 0 < 2 by decide) l
  have e : (joinsN r c ones).length ≤ [(Tup.mk ([] : List Int), true)].length * 2 ^ ones.length := h2
  rw [List.length_singleton, Nat.one_mul] at e
  omega
theorem MOk.okJoins (hb : (r, c) ∈ boards5) (M : MOk r c m) : okJoins r c m := by
  obtain ⟨b1, b2, b3, b4⟩ := b5_b (h := hb)
  refine ⟨by omega, by omega, by omega, by omega, by have := M.len; omega, fun e he => ?_, fun i => ?_⟩
  · have h := eff_ok hb (M.E e he)
    have h1 := h.sl
    unfold suppE at h1
    exact ⟨by have := h.len; omega, by omega⟩
  · obtain ⟨h1, h2⟩ := joins_at hb M (ones := (m.items.map (·.1)).take i) (fun e he => List.mem_of_mem_take he) (by rw [List.length_take, List.length_map]; have := M.len; omega)
    refine ⟨by omega, fun e he => ?_⟩
    have := (fl_one hb (h1.fl e.1 (List.mem_map.mpr ⟨e, he, rfl⟩))).1
    omega
theorem joins_mem {l : Tup Int} : l ∈ mJoins r c m ↔ l ∈ (joinsN r c (m.items.map (·.1))).map (·.1) := by
  have h := (lsort_perm ((joinsN r c (m.items.map (·.1))).map fun e => e.1.items)).map Tup.mk
  have e : ((joinsN r c (m.items.map (·.1))).map fun e => e.1.items) = ((joinsN r c (m.items.map (·.1))).map (·.1)).map fun e => e.items := by rw [List.map_map]; rfl
  unfold mJoins
  rw [e, mk_items] at h
  rw [e]
  exact h.mem_iff
theorem joins_len : (mJoins r c m).length = (joinsN r c (m.items.map (·.1))).length := by
  unfold mJoins
  rw [List.length_map, (lsort_perm _).length_eq, List.length_map]
theorem MOk.okWithin (hb : (r, c) ∈ boards5) (M : MOk r c m) {X : List Int} (h : X.length ≤ 60) : okWithin r c m X := by
  obtain ⟨b1, b2, b3, b4⟩ := b5_b (h := hb)
  refine ⟨by omega, by omega, by omega, by omega, by have := M.len; omega, fun e he => by have := (eff_ok hb (M.E e he)).len; omega, h, M.wpos, by have := M.sum; omega⟩
/-! the least values -/
theorem leastD_eq : mLeastD r c m = (mJoins r c m).foldl (fun d l => putD d (mWithin r c m l.items) true) [] := by
  unfold mLeastD
  rw [List.filter_eq_self.mpr fun _ _ => rfl]
theorem valX_congr {X Y : List Int} (h : ∀ e ∈ m.items, leX r c e.1 X = leX r c e.1 Y) : valX m.items (leX r c) X = valX m.items (leX r c) Y := by
  unfold valX wt
  rw [sum_congr (f := fun e : Tup Int × Int => if leX r c e.1 X = true then e.2 else 0) (g := fun e => if leX r c e.1 Y = true then e.2 else 0) fun e he => by rw [h e he]]
theorem least_mem (hb : (r, c) ∈ boards5) (M : MOk r c m) (v : Int × Int) : v ∈ (mLeastD r c m).map (·.1) ↔ ∃ X ∈ FX r c, v = valX m.items (leX r c) X.1 := by
  obtain ⟨k1, k2, k3⟩ := keys_fold (fun l : Tup Int => mWithin r c m l.items) true (mJoins r c m) [] List.nodup_nil
  rw [leastD_eq, k2 v]
  obtain ⟨J, _⟩ := joins_at hb M (ones := m.items.map (·.1)) (fun e h => h) (by rw [List.length_map]; exact M.len)
  constructor
  · rintro (h | ⟨l, hl, rfl⟩)
    · cases h
    · obtain ⟨_, X, hX, s1, s2⟩ := fl_one hb (J.fl l (joins_mem.mp hl))
      refine ⟨X, hX, ?_⟩
      show mWithin r c m l.items = _
      rw [within_val]
      refine valX_congr fun e _ => Bool.eq_iff_iff.mpr ⟨fun h => subL_trans h s1, fun h => subL_trans h s2⟩
  · rintro ⟨X, hX, rfl⟩
    obtain ⟨k, hk, hs, hq⟩ := J.X X hX
    refine .inr ⟨k, joins_mem.mpr hk, ?_⟩
    show _ = mWithin r c m k.items
    rw [within_val]
    exact valX_congr fun e he => Bool.eq_iff_iff.mpr ⟨fun h => hq e.1 (List.mem_map.mpr ⟨e, he, rfl⟩) h, fun h => subL_trans h hs⟩
theorem leastD_facts (hb : (r, c) ∈ boards5) (M : MOk r c m) : ((mLeastD r c m).map (·.1)).Nodup ∧ (mLeastD r c m).length ≤ 32 ∧ (∀ e ∈ mLeastD r c m, VB e.1) := by
  obtain ⟨k1, k2, k3⟩ := keys_fold (fun l : Tup Int => mWithin r c m l.items) true (mJoins r c m) [] List.nodup_nil
  obtain ⟨_, J2⟩ := joins_at hb M (ones := m.items.map (·.1)) (fun e h => h) (by rw [List.length_map]; exact M.len)
  refine ⟨by rw [leastD_eq]; exact k1, ?_, fun e he => ?_⟩
  · rw [leastD_eq]
    rw [joins_len, List.length_nil] at k3
    omega
  · obtain ⟨X, _, hX⟩ := (least_mem hb M e.1).mp (List.mem_map.mpr ⟨e, he, rfl⟩)
    rw [hX]
    exact vb M X.1
theorem MOk.okLeast (hb : (r, c) ∈ boards5) (M : MOk r c m) : okLeast r c m := by
  obtain ⟨h1, h2, h3⟩ := leastD_facts hb M
  obtain ⟨J, J2⟩ := joins_at hb M (ones := m.items.map (·.1)) (fun e h => h) (by rw [List.length_map]; exact M.len)
  refine ⟨M.okJoins hb, fun l hl => M.okWithin hb ?_, okOrd_of (by omega) h3, by rw [joins_len]; omega, by omega⟩
  have := (fl_one hb (J.fl l (joins_mem.mp hl))).1
  omega
theorem least_eq (hb : (r, c) ∈ boards5) (M : MOk r c m) : mLeast r c m = (mOrd (mVals r c m)).items.map fun e => e.1 := by
  obtain ⟨h1, h2, h3⟩ := leastD_facts hb M
  have V := vals_list hb M
  have pm := ord_perm (mLeastD r c m)
  refine sorted_uniq (fun v hv => ?_) (fun v => ?_) (ord_sorted h1 fun e he => (h3 e he).r) V.sorted
  · obtain ⟨e, he, rfl⟩ := List.mem_map.mp hv
    exact (h3 e (pm.mem_iff.mp he)).r.1
  · exact ((pm.map (·.1)).mem_iff.trans (least_mem hb M v)).trans (V.mem v).symm
theorem MOk.okVals (hb : (r, c) ∈ boards5) (M : MOk r c m) : okVals r c m := by
  obtain ⟨b1, b2, b3, b4⟩ := b5_b (h := hb)
  have hw := chk_at chkHW_all hb
  unfold chkHW at hw
  rw [Bool.and_eq_true, Bool.and_eq_true, decide_eq_true_iff, decide_eq_true_iff] at hw
  obtain ⟨⟨w1, w2⟩, w3⟩ := hw
  have w1 : (highsOf r).length ≤ 8 := w1
  have w2 : (widesOf r c).length ≤ 8 := w2
  have V := mVals_dict hb M
  have stepl : ∀ (high : List Int) (ws : List (List Int)) (f : DVal), (ws.foldl (vbStep r c m high) f).length ≤ f.length + ws.length := fun high ws => by
    induction ws with
    | nil => intro f; simp
    | cons x ws ih =>
      intro f
      have h1 := ih (vbStep r c m high f x)
      have h2 : (vbStep r c m high f x).length ≤ f.length + 1 := addD_len f _ _
      rw [List.foldl_cons, List.length_cons]
      omega
  have outl : ∀ (hs : List (List Int)) (f : DVal), (hs.foldl (fun f high => (widesOf r c).foldl (vbStep r c m high) f) f).length ≤ f.length + hs.length * 8 := fun hs => by
    induction hs with
    | nil => intro f; simp
    | cons x hs ih =>
      intro f
      have h1 := ih ((widesOf r c).foldl (vbStep r c m x) f)
      have h2 := stepl x (widesOf r c) f
      rw [List.foldl_cons, List.length_cons]
      omega
  have ol : ∀ i, (vbOut r c m i).length ≤ 65 := fun i => by
    have h1 := outl ((highsOf r).take i) [((1, 1), 1)]
    have h2 : ((highsOf r).take i).length ≤ 8 := by rw [List.length_take]; omega
    have h3 : (vbOut r c m i).length ≤ [(((1, 1), 1) : (Int × Int) × Int)].length + ((highsOf r).take i).length * 8 := h1
    rw [List.length_singleton] at h3
    omega
  refine ⟨by omega, by omega, by omega, by omega, fun high hh wide hw => ?_, fun i high j hi => ?_, ?_, okOrd_of ?_ (V.vb M)⟩
  · have := chk_at (chk_at w3 hh) hw
    rw [Bool.and_eq_true, decide_eq_true_iff] at this
    obtain ⟨⟨⟨q1, q2⟩, ⟨q3, q4⟩, q5⟩, q6⟩ := this
    exact ⟨⟨q1, q2, q3, q4, q6⟩, M.okWithin hb (by rw [List.length_append]; omega), by omega⟩
  · have h1 := stepl high ((widesOf r c).take j) (vbOut r c m i)
    have h2 := ol i
    have h3 : ((widesOf r c).take j).length ≤ 8 := by rw [List.length_take]; omega
    have h4 : (vbIn r c m high (vbOut r c m i) j).length ≤ (vbOut r c m i).length + ((widesOf r c).take j).length := h1
    omega
  · have := ol (highsOf r).length
    omega
  · rw [mVals_eq hb M]
    have := ol (highsOf r).length
    omega
theorem MOk.okOwn (hb : (r, c) ∈ boards5) (M : MOk r c m) : okOwn r c m := by
  obtain ⟨b1, b2, b3, b4⟩ := b5_b (h := hb)
  exact ⟨⟨by omega, by omega, by omega, by omega⟩, by omega, M.okMeas hb, M.okVals hb⟩
end
end K4
end
section
set_option Elab.async false
set_option linter.all false
set_option maxRecDepth 100000
set_option maxHeartbeats 4000000
namespace K4
open PySem PySem.Spec PyProof.Rows L2 PySem.W
/-! the pictures -/
def chkPic (b : Int × Int) : Bool := (mPics b.1 b.2).all (fun p => decide (1 ≤ p.items.length) && decide (p.items.length ≤ 100) && p.items.all fun t => decide (0 < t.length) && decide (t.length ≤ 100)) && decide (numP b ≤ 16) && decide (suppE b.1 b.2 (Tup.mk []) = [])
set_option maxHeartbeats 0 in
theorem chkPic_all : boards5.all chkPic = true := by decide +kernel
section
variable {r c : Int} {m : Meas} {ys : List Pic}
structure TbOk (r c : Int) : Prop where
  lt : ∀ row ∈ tbl (r, c), (∀ i ∈ row, i < numP (r, c)) ∧ row.length = numP (r, c)
  len : (tbl (r, c)).length = (r + c).toNat
  pl : (mPics r c).length = numP (r, c)
  nd : (mPics r c).Nodup
  eq : tb r c = tbl (r, c)
  np : numP (r, c) ≤ 16
  pic : ∀ p ∈ mPics r c, okPic p
  one : suppE r c (Tup.mk []) = []
theorem tb_ok (hb : (r, c) ∈ boards5) : TbOk r c := by
  have h := chk_at chkTb_all hb
  have h2 := chk_at tb_eq hb
  have h3 := chk_at chkPic_all hb
  unfold chkTb at h
  unfold chkPic at h3
  simp only [Bool.and_eq_true, decide_eq_true_eq, List.all_eq_true] at h h2 h3
  obtain ⟨⟨⟨a1, a2⟩, a3⟩, a4⟩ := h
  obtain ⟨⟨c1, c2⟩, c3⟩ := h3
  exact ⟨a1, a2, a3, a4, h2, c2, fun p hp => ⟨(c1 p hp).1.1, (c1 p hp).1.2, (c1 p hp).2⟩, c3⟩
theorem TbOk.stroke (B : TbOk r c) {i : Nat} {p : Pic} {l : Int} (hi : (mPics r c)[i]? = some p) (l0 : 0 ≤ l) (l1 : l < r + c) : (mPics r c)[((tbl (r, c)).getD l.toNat []).getD i 0]? = some (mStroke p l) := by
  have hl : (rng 0 (r + c).toNat)[l.toNat]? = some l := by
    unfold rng
    rw [List.getElem?_map, List.getElem?_range (by omega)]
    show some (0 + (l.toNat : Int)) = some l
    congr 1
    omega
  have h1 : (tbl (r, c))[l.toNat]? = some ((mPics r c).map fun p => (mPics r c).idxOf (mStroke p l)) := by
    rw [← B.eq]
    unfold tb
    rw [List.getElem?_map, hl] <;> rfl
  have h2 : ((mPics r c).map fun p => (mPics r c).idxOf (mStroke p l))[i]? = some ((mPics r c).idxOf (mStroke p l)) := by
    rw [List.getElem?_map, hi] <;> rfl
  rw [getD_some h1, getD_some h2]
  have h3 := (B.lt _ (List.mem_of_getElem? h1)).1 _ (List.mem_of_getElem? h2)
  rw [← B.pl] at h3
  rw [List.getElem?_eq_getElem h3, List.getElem_idxOf]
theorem TbOk.play (B : TbOk r c) : ∀ {w : List Int} {i : Nat} {p : Pic}, (∀ l ∈ w, 0 ≤ l ∧ l < r + c) → (mPics r c)[i]? = some p → (mPics r c)[playI (tbl (r, c)) i w]? = some (mPlay p w)
  | [], i, p, _, hi => hi
  | l :: w, i, p, hw, hi => by
    have hl := hw l List.mem_cons_self
    exact B.play (w := w) (fun x hx => hw x (List.mem_cons_of_mem _ hx)) (B.stroke hi hl.1 hl.2)
theorem TbOk.mem (B : TbOk r c) {w : List Int} {p : Pic} (hw : ∀ l ∈ w, 0 ≤ l ∧ l < r + c) (hp : p ∈ mPics r c) : mPlay p w ∈ mPics r c := by
  obtain ⟨i, hi⟩ := List.getElem?_of_mem hp
  exact List.mem_of_getElem? (B.play hw hi)
theorem law_at (hb : (r, c) ∈ boards5) {f u : Tup Int} (hf : f ∈ effs r c) (hu : u ∈ effs r c) : mulE r c f u ∈ effs r c ∧ (leU r c f u = true → mulE r c f u = u) ∧ subL (suppE r c u) (suppE r c (mulE r c f u)) = true ∧ subL (suppE r c f) (suppE r c (mulE r c f u)) = true := by
  have h : boards5.all (fun b => chkLaw b.1 b.2) = true := chkLaw_all
  have h1 := chk_at h hb
  unfold chkLaw at h1
  have h2 := chk_at (chk_at h1 hf) hu
  simp only [Bool.and_eq_true, decide_eq_true_eq, Bool.or_eq_true, Bool.not_eq_true'] at h2
  obtain ⟨⟨⟨⟨h3, h4⟩, h5⟩, h6⟩, _⟩ := h2
  refine ⟨h3, fun z => h4.resolve_left fun q => ?_, h5, h6⟩
  have z' : subL (suppE r c f) (suppE r c u) = true := z
  rw [z'] at q
  cases q
theorem play_at (hb : (r, c) ∈ boards5) {f u : Tup Int} (hf : f ∈ effs r c) (hu : u ∈ effs r c) {i : Nat} (hi : i < numP (r, c)) : playI (tbl (r, c)) (playI (tbl (r, c)) i f.items) u.items = playI (tbl (r, c)) i (mulE r c f u).items := by
  have h1 := chk_at chkPlay_all hb
  unfold chkPlay at h1
  have h2 := chk_at (chk_at (chk_at h1 hf) hu) (List.mem_range.mpr hi)
  exact eq_of_beq h2
theorem fix_at (hb : (r, c) ∈ boards5) {u : Tup Int} (hu : u ∈ effs r c) : (((List.range (numP (r, c))).filter fun i => playI (tbl (r, c)) i u.items == i).length : Int) = (((FX r c).filter fun x => subL (suppE r c u) x.1).map (·.2)).sum := by
  have h1 := chk_at chkFix_all hb
  unfold chkFix at h1
  exact of_decide_eq_true (chk_at h1 hu)
theorem fx_at (hb : (r, c) ∈ boards5) {f u : Tup Int} (hf : f ∈ effs r c) (hu : u ∈ effs r c) {X : List Int × Int} (hX : X ∈ FX r c) : leX r c (mulE r c f u) X.1 = (leX r c f X.1 && leX r c u X.1) := by
  have h1 := chk_at chkFX_all hb
  unfold chkFX at h1
  rw [Bool.and_eq_true] at h1
  exact eq_of_beq (chk_at (chk_at (chk_at h1.2 hf) hu) hX)
theorem filter_len (hb : (r, c) ∈ boards5) {u : Tup Int} (hu : u ∈ effs r c) : ((mPics r c).filter fun z => decide (plE z u = z)).length = ((List.range (numP (r, c))).filter fun i => playI (tbl (r, c)) i u.items == i).length := by
  have B := tb_ok hb
  have h1 : (mPics r c) = (List.range (numP (r, c))).map fun i => (mPics r c).getD i (Tup.mk []) := by
    apply List.ext_getElem?
    intro i
    rw [List.getElem?_map]
    cases e : (mPics r c)[i]? with
    | none =>
      have := List.getElem?_eq_none_iff.mp e
      rw [List.getElem?_eq_none (by rw [List.length_range, ← B.pl]; exact this)] <;> rfl
    | some x =>
      have hi := (List.getElem?_eq_some_iff.mp e).1
      rw [List.getElem?_range (by rw [← B.pl]; exact hi)]
      show some x = some ((mPics r c).getD i (Tup.mk []))
      rw [getD_some e]
  have h2 : ((mPics r c).filter fun z => decide (plE z u = z)).length = (((List.range (numP (r, c))).map fun i => (mPics r c).getD i (Tup.mk [])).filter fun z => decide (plE z u = z)).length := by
    rw [← h1]
  rw [h2, List.filter_map, List.length_map]
  congr 1
  refine List.filter_congr fun i hi => ?_
  have hi' := List.mem_range.mp hi
  rw [← B.pl] at hi'
  obtain ⟨p, hp⟩ : ∃ p, (mPics r c)[i]? = some p := ⟨_, List.getElem?_eq_getElem hi'⟩
  have hq := B.play (eff_ok hb hu).rg hp
  show decide (plE ((mPics r c).getD i (Tup.mk [])) u = (mPics r c).getD i (Tup.mk [])) = _
  rw [getD_some hp, Bool.eq_iff_iff, decide_eq_true_iff, beq_iff_eq]
  constructor
  · intro z
    have z' : mPlay p u.items = p := z
    rw [z'] at hq
    exact (by have := (nodup_at B.nd hq hp).mp rfl; omega)
  · intro z
    rw [z, hp] at hq
    exact (Option.some.inj hq).symm
theorem pics_core (hb : (r, c) ∈ boards5) (M : MOk r c m) (pm : ys.Perm (mPics r c)) : Core ys plE (mulE r c) m.items (FX r c) (leX r c) (leU r c) (· ∈ effs r c) (Tup.mk []) := by
  have B := tb_ok hb
  have hmem : ∀ {u : Tup Int} {z : Pic}, u ∈ effs r c → z ∈ ys → plE z u ∈ ys := fun hu hz => pm.mem_iff.mpr (B.mem (eff_ok hb hu).rg (pm.mem_iff.mp hz))
  have one : Tup.mk [] ∈ effs r c := effs_mem (l := []) (by decide) fun x h => nomatch h
  refine ⟨pm.nodup_iff.mpr B.nd, fun z hz e he => hmem (M.E e he) hz, fun e he u hu => (law_at hb (M.E e he) hu).1, fun u hu z hz e he => ?_, fun u hu e he X hX => fx_at hb (M.E e he) hu hX, fun u hu => ?_, fun u hu z hz => hmem hu hz, one, fun x _ => rfl, fun X _ => ?_, fun u hu e he h => (law_at hb (M.E e he) hu).2.1 h, fun u hu => ?_, fun u hu e he f hf h => subL_trans h (law_at hb (M.E e he) hu).2.2.1, fun u hu e he => (law_at hb (M.E e he) hu).2.2.2, fun e he => by have := M.pos e he; omega, fx_pos hb, M.wpos⟩
  · obtain ⟨i, hi⟩ := List.getElem?_of_mem (pm.mem_iff.mp hz)
    have hlt := (List.getElem?_eq_some_iff.mp hi).1
    rw [B.pl] at hlt
    have hf := M.E e he
    have h1 := B.play (eff_ok hb hu).rg (B.play (eff_ok hb hf).rg hi)
    have h2 := B.play (eff_ok hb (law_at hb hf hu).1).rg hi
    rw [play_at hb hf hu hlt] at h1
    exact Option.some.inj (h1.symm.trans h2)
  · rw [(pm.filter _).length_eq, filter_len hb hu]
    exact fix_at hb hu
  · show subL (suppE r c (Tup.mk [])) X.1 = true
    rw [B.one]
    rfl
  · obtain ⟨_, X, hX, s1, s2⟩ := fl_one hb (fl_eff hu)
    exact ⟨X, hX, fun e _ => Bool.eq_iff_iff.mpr ⟨fun h => subL_trans h s2, fun h => subL_trans h s1⟩⟩
theorem pics_len (hb : (r, c) ∈ boards5) (pm : ys.Perm (mPics r c)) : ys.length ≤ 16 := by
  have B := tb_ok hb
  rw [pm.length_eq, B.pl]
  exact B.np
theorem pics_okS (hb : (r, c) ∈ boards5) (M : MOk r c m) (pm : ys.Perm (mPics r c)) : OkS m ys := by
  have B := tb_ok hb
  refine ⟨pm.nodup_iff.mpr B.nd, pics_len hb pm, fun x hx e he => ?_⟩
  have hr := (eff_ok hb (M.E e he)).rg
  have hx' := pm.mem_iff.mp hx
  exact ⟨fun i => B.pic _ (B.mem (fun l hl => hr l (List.mem_of_mem_take hl)) hx'), pm.mem_iff.mpr (B.mem hr hx')⟩
end
end K4
end
section
set_option Elab.async false
set_option linter.all false
set_option maxRecDepth 100000
set_option maxHeartbeats 4000000
namespace K4
open PySem PySem.Spec PyProof.Rows L2 PySem.W
/-! all that the walk asks -/
theorem cut_to {α : Type} {l : List α} {k : Nat} (h : k ≤ l.length) : cut l none (some (k : Int)) = l.take k := by
  unfold cut
  rw [HT.sIx_nat, HT.sIx_none, List.drop_zero, Nat.sub_zero]
  congr 1
  omega
theorem cut_from {α : Type} {l : List α} (k : Nat) : cut l (some (k : Int)) none = l.drop k := by
  unfold cut
  rw [HT.sIx_nat, HT.sIx_none]
  by_cases h : k ≤ l.length
  · rw [Nat.min_eq_left h]
    exact List.take_of_length_le (by rw [List.length_drop]; omega)
  · rw [Nat.min_eq_right (by omega), List.drop_length, List.drop_eq_nil_of_le (by omega)]
    simp
theorem pow_b {W : Int} (w0 : 0 < W) (w1 : W ≤ 20) {k : Nat} (hk : k ≤ 4) : 0 < W ^ k ∧ W ^ k ≤ 160000 := by
  refine ⟨Int.pow_pos w0, ?_⟩
  have key : ∀ k : Nat, W ^ k ≤ 20 ^ k := fun k => by
    induction k with
    | zero => simp
    | succ k ih =>
      rw [Int.pow_succ, Int.pow_succ]
      exact Int.mul_le_mul ih w1 (Int.le_of_lt w0) (Int.pow_nonneg (by decide))
  have h1 := key k
  have h2 : (20 : Int) ^ k ≤ 160000 := by
    have : ∀ k : Nat, k ≤ 4 → (20 : Int) ^ k ≤ 160000 := by decide
    exact this k hk
  omega
theorem pairwise_get {xs : List (Int × Int)} (h : xs.Pairwise Gt) {i : Nat} (hi : i + 1 < xs.length) : (xs.getD (i + 1) (0, 0)).1 * (xs.getD i (0, 0)).2 < (xs.getD i (0, 0)).1 * (xs.getD (i + 1) (0, 0)).2 := by
  have h1 := List.pairwise_iff_getElem.mp h i (i + 1) (by omega) hi (by omega)
  rw [getD_some (List.getElem?_eq_getElem hi), getD_some (List.getElem?_eq_getElem (show i < xs.length by omega))]
  exact h1
theorem head_one {xs : List (Int × Int)} (h : xs.Pairwise Gt) (hb : ∀ v ∈ xs, VB v) (h1 : (1, 1) ∈ xs) : ∃ rest, xs = (1, 1) :: rest ∧ xs.filter (fun e => decide (e ≠ ((1, 1) : Int × Int))) = rest := by
  have irr : ∀ v : Int × Int, ¬ Gt v v := fun v z => by unfold Gt at z; omega
  cases xs with
  | nil => cases h1
  | cons a rest =>
    rw [List.pairwise_cons] at h
    have e : a = (1, 1) := by
      rcases List.mem_cons.mp h1 with e | h2
      · exact e.symm
      · have g := h.1 _ h2
        have := (hb a List.mem_cons_self).le
        unfold Gt at g
        exfalso
        simp only [Int.one_mul, Int.mul_one] at g
        omega
    subst e
    refine ⟨rest, rfl, ?_⟩
    rw [List.filter_cons, if_neg (by simp)]
    exact List.filter_eq_self.mpr fun v hv => decide_eq_true fun z => irr v (by rw [z]; exact h.1 (1, 1) (z ▸ hv))
section
variable {r c : Int} {m : Meas} {ys : List Pic}
/-- what is set once -/
structure Set (r c : Int) (m : Meas) (ys : List Pic) : Prop where
  hb : (r, c) ∈ boards5
  M : MOk r c m
  pm : ys.Perm (mPics r c)
theorem Set.core (s : Set r c m ys) : Core ys plE (mulE r c) m.items (FX r c) (leX r c) (leU r c) (· ∈ effs r c) (Tup.mk []) := pics_core s.hb s.M s.pm
theorem Set.V (s : Set r c m ys) : Vals m.items (FX r c) (leX r c) (mOrd (mVals r c m)).items := vals_list s.hb s.M
theorem Set.vb (s : Set r c m ys) : ∀ e ∈ (mOrd (mVals r c m)).items, VB e.1 := fun e he => (mVals_dict s.hb s.M).vb s.M e ((ord_perm _).mem_iff.mp he)
theorem Set.pos (s : Set r c m ys) : ∀ e ∈ (mOrd (mVals r c m)).items, 0 < e.2 := fun e he => (mVals_dict s.hb s.M).pos e ((ord_perm _).mem_iff.mp he)
theorem Set.sum (s : Set r c m ys) : ((mOrd (mVals r c m)).items.map fun e => e.2).sum = (ys.length : Int) := by
  have h := s.V.sum fun _ => 1
  simp only [Int.mul_one] at h
  rw [h]
  have C := s.core
  have hf := C.hfix (Tup.mk []) C.h1
  have e1 : ys.filter (fun z => decide (plE z (Tup.mk []) = z)) = ys := List.filter_eq_self.mpr fun z hz => decide_eq_true rfl
  have e2 : (FX r c).filter (fun X => leX r c (Tup.mk []) X.1) = FX r c := List.filter_eq_self.mpr fun X hX => C.lone X hX
  rw [e1, e2] at hf
  exact hf.symm
theorem Set.times (s : Set r c m ys) : ∀ e ∈ (mOrd (mVals r c m)).items, e.2 ≤ 16 := fun e he => by
  have h := mem_le_sum (fun e : (Int × Int) × Int => e.2) (fun x hx => Int.le_of_lt (s.pos x hx)) e he
  have h2 := s.sum
  have h3 := pics_len s.hb s.pm
  omega
theorem Set.vlen (s : Set r c m ys) : (mOrd (mVals r c m)).items.length ≤ 100 := by
  rw [← List.length_map (f := fun e : (Int × Int) × Int => e.1), ← least_eq s.hb s.M]
  show ((mOrd (mLeastD r c m)).items.map fun e => e.1).length ≤ 100
  rw [List.length_map, (ord_perm _).length_eq]
  have := (leastD_facts s.hb s.M).2.1
  omega
abbrev Wm (m : Meas) : Int := wAll m.items
theorem Set.w (s : Set r c m ys) : 0 < Wm m ∧ Wm m ≤ 20 := ⟨s.M.wpos, s.M.sum⟩
theorem Set.part (s : Set r c m ys) {e : (Int × Int) × Int} (he : e ∈ (mOrd (mVals r c m)).items) {k : Nat} (hk : k ≤ 4) : 0 < (mPart e.2 e.1 k).2 ∧ (mPart e.2 e.1 k).2 ≤ 160000 ∧ 0 < (mRaisedN e.1 k).2 ∧ (mRaisedN e.1 k).2 ≤ 160000 ∧ 0 < (mTimes (mRaisedN e.1 k) (e.2, 1)).2 ∧ (mTimes (mRaisedN e.1 k) (e.2, 1)).2 ≤ 160000 := by
  obtain ⟨w0, w1⟩ := s.w
  obtain ⟨p0, p1⟩ := pow_b w0 w1 hk
  obtain ⟨rr, ii⟩ := s.V.is w0 (List.mem_map.mpr ⟨e, he, rfl⟩)
  obtain ⟨i1, r1⟩ := part_is (t := e.2) rr.1 ii k
  obtain ⟨i2, r2⟩ := raised_is rr.1 ii k
  have i3 : Is (e.2, 1) e.2 1 := rfl
  have i4 := Is.times r2.1 (by decide : (0 : Int) < 1) i2 i3
  have r4 := times_red (p := mRaisedN e.1 k) (q := (e.2, 1)) r2.1 (by decide : (0 : Int) < 1)
  rw [Int.mul_one] at i4
  have l1 := r1.le p0 i1
  have l2 := r2.le p0 i2
  have l4 := r4.le p0 i4
  change (mPart e.2 e.1 k).2 ≤ Wm m ^ k at l1
  change (mRaisedN e.1 k).2 ≤ Wm m ^ k at l2
  change (mTimes (mRaisedN e.1 k) (e.2, 1)).2 ≤ Wm m ^ k at l4
  exact ⟨r1.1, by omega, r2.1, by omega, r4.1, by omega⟩
theorem Set.sums (s : Set r c m ys) {vs : List ((Int × Int) × Int)} (hv : ∀ e ∈ vs, e ∈ (mOrd (mVals r c m)).items) {k : Nat} (hk : k ≤ 4) : 0 < (mSums vs k).2 ∧ (mSums vs k).2 ≤ 160000 ∧ 0 < (mTr vs k).2 ∧ (mTr vs k).2 ≤ 160000 := by
  obtain ⟨w0, w1⟩ := s.w
  obtain ⟨p0, p1⟩ := pow_b w0 w1 hk
  obtain ⟨i1, r1⟩ := s.V.sums w0 k hv
  obtain ⟨i2, r2⟩ := s.V.trs w0 k hv
  have l1 := r1.le p0 i1
  have l2 := r2.le p0 i2
  change (mSums vs k).2 ≤ Wm m ^ k at l1
  change (mTr vs k).2 ≤ Wm m ^ k at l2
  exact ⟨r1.1, by omega, r2.1, by omega⟩
/-! the steps -/
theorem Set.stp (s : Set r c m ys) (x y : Pic) : 0 ≤ stp plE m.items x y ∧ stp plE m.items x y ≤ 20 := by
  have w1 := s.M.sum
  unfold K4.stp
  refine ⟨?_, ?_⟩
  · have := sum_le (f := fun _ : Tup Int × Int => (0 : Int)) (g := fun e => if plE x e.1 = y then e.2 else 0) (l := m.items) fun e he => by
      have := s.M.pos e he
      split <;> omega
    rw [sum_zero] at this
    exact this
  · have := sum_le (f := fun e : Tup Int × Int => if plE x e.1 = y then e.2 else 0) (g := fun e => e.2) (l := m.items) fun e he => by
      have := s.M.pos e he
      split <;> omega
    unfold mWeight at w1
    have e1 : m.items.map (fun e : Tup Int × Int => e.2) = m.items.map (·.2) := rfl
    omega
theorem matOf_row {N : Pic → Pic → Int} : ∀ row ∈ matOf ys N, row.length = ys.length ∧ ∀ v ∈ row, ∃ x ∈ ys, ∃ y ∈ ys, v = N x y := fun row h => by
  obtain ⟨x, hx, rfl⟩ := List.mem_map.mp h
  refine ⟨List.length_map .., fun v hv => ?_⟩
  obtain ⟨y, hy, rfl⟩ := List.mem_map.mp hv
  exact ⟨x, hx, y, hy, rfl⟩
theorem okProd_of (n1 : ys.length ≤ 16) {N B : Pic → Pic → Int} (h : ∀ x ∈ ys, ∀ y ∈ ys, -1000 ≤ B x y ∧ B x y ≤ 1000) : okProd (matOf ys N) (matOf ys B) := by
  refine ⟨by rw [matOf_len]; omega, by rw [matOf_len, matOf_len], fun row hr => by rw [matOf_len]; exact (matOf_row row hr).1, fun row hr => ⟨by rw [matOf_len]; exact (matOf_row row hr).1, fun v hv => ?_⟩⟩
  obtain ⟨x, hx, y, hy, rfl⟩ := (matOf_row row hr).2 v hv
  have := h x hx y hy
  constructor <;> omega
theorem Set.okC (s : Set r c m ys) {k : Nat} (hk : k < 5) : OkC r c m ys.length (mSteps m ys) (Wm m) (mOrd (mVals r c m)) k := by
  obtain ⟨w0, w1⟩ := s.w
  obtain ⟨p0, p1⟩ := pow_b w0 w1 (k := k) (by omega)
  have n1 := pics_len s.hb s.pm
  have nd := s.core.nd
  have hpow : mPow (mSteps m ys) ys.length k = matOf ys (prods ys plE m.items (List.replicate k (1, 0))) := pow_matOf plE m.items nd k
  refine ⟨fun i e hi => ?_, ?_, ⟨p0, by omega⟩, ⟨⟨s.M.okOwn s.hb, by omega, by omega, fun i e hi => ?_⟩, ?_⟩, ?_⟩
  · have he := List.mem_of_getElem? hi
    have b := s.vb e he
    have q := s.part he (k := k) (by omega)
    have q2 := s.sums (vs := (mOrd (mVals r c m)).items.take i) (fun e h => List.mem_of_mem_take h) (k := k) (by omega)
    have rp := b.r.1
    have rd := b.d
    have rn := b.n1
    have rn2 := b.n2
    refine ⟨fun j hj => ?_, by unfold B30; omega, by unfold B30; omega, ?_⟩
    · have q3 := s.part he (k := j) (by omega)
      exact ⟨q3.1, by unfold B30; omega, rp, by unfold B30; omega⟩
    · exact ⟨q2.1, by unfold B30; omega, q.1, by unfold B30; omega⟩
  · rw [hpow, trc_matOf]
    exact s.core.sums s.V k
  · have he := List.mem_of_getElem? hi
    have b := s.vb e he
    have q := s.part he (k := k) (by omega)
    have q2 := s.sums (vs := (mOrd (mVals r c m)).items.take i) (fun e h => List.mem_of_mem_take h) (k := k) (by omega)
    have t1 := s.pos e he
    have t2 := s.times e he
    have rp := b.r.1
    have rd := b.d
    have rn := b.n1
    have rn2 := b.n2
    refine ⟨⟨rp, by omega, by unfold B30; omega, by unfold B30; omega⟩, ?_, by unfold B30; omega, by unfold B30; omega, ?_⟩
    · have q3 : 0 < (mRaised e.1 (k : Int)).2 ∧ (mRaised e.1 (k : Int)).2 ≤ 160000 := ⟨q.2.2.1, q.2.2.2.1⟩
      exact ⟨q3.1, by unfold B30; omega, (show (0 : Int) < 1 by decide), (show (1 : Int) ≤ B30 by decide)⟩
    · have q3 : 0 < (((mOrd (mVals r c m)).items.take i).foldl (trStep (k : Int)) (0, 1)).2 ∧ (((mOrd (mVals r c m)).items.take i).foldl (trStep (k : Int)) (0, 1)).2 ≤ 160000 := ⟨q2.2.2.1, q2.2.2.2⟩
      have q4 : 0 < (mTimes (mRaised e.1 (k : Int)) (e.2, 1)).2 ∧ (mTimes (mRaised e.1 (k : Int)) (e.2, 1)).2 ≤ 160000 := ⟨q.2.2.2.2.1, q.2.2.2.2.2⟩
      exact ⟨q3.1, by unfold B30; omega, q4.1, by unfold B30; omega⟩
  · exact s.core.trs s.V k
  · rw [hpow]
    exact okProd_of n1 fun x _ y _ => by have := s.stp x y; omega
theorem Set.okE (s : Set r c m ys) : OkE r c m ys.length (mSteps m ys) (Wm m) (mLeast r c m) := by
  obtain ⟨w0, w1⟩ := s.w
  obtain ⟨b1, b2, b3, b4⟩ := b5_b (h := s.hb)
  have n1 := pics_len s.hb s.pm
  have C := s.core
  have V := s.V
  have nd := C.nd
  have hl : (mLeast r c m).length ≤ 100 := by
    rw [least_eq s.hb s.M, List.length_map]
    exact s.vlen
  have hvb : ∀ v ∈ mLeast r c m, VB v := fun v hv => by
    rw [least_eq s.hb s.M] at hv
    obtain ⟨e, he, rfl⟩ := List.mem_map.mp hv
    exact s.vb e he
  refine ⟨⟨by omega, by omega, by omega, by omega⟩, s.M.okMeas s.hb, hl, fun zs z1 z2 => ⟨?_, s.M.okWithin s.hb ?_, ?_⟩, fun gone g0 g1 => ?_⟩
  · unfold mStrokes
    rw [List.all_map, List.all_eq_true]
    intro x hx
    have := z2 x hx
    show mIsIn x 0 (r + c - 1) = true
    unfold mIsIn
    rw [Bool.and_eq_true, decide_eq_true_iff, decide_eq_true_iff]
    omega
  · have := support_len (r := r) (c := c) (xs := zs) (by omega) (by omega) (by omega) (by omega)
    omega
  · rw [within_val, lwithin_val]
  · obtain ⟨k, rfl⟩ : ∃ k : Nat, gone = (k : Int) := ⟨gone.toNat, by omega⟩
    have hk : k ≤ (mLeast r c m).length := by omega
    have e2 : ((k : Int) + 1) = ((k + 1 : Nat) : Int) := by omega
    rw [cut_to hk, e2, cut_from]
    have hmem : ∀ v ∈ (mLeast r c m).take k ++ (mLeast r c m).drop (k + 1), v ∈ mLeast r c m := fun v hv => by
      rcases List.mem_append.mp hv with h | h
      · exact List.mem_of_mem_take h
      · exact List.mem_of_mem_drop h
    refine ⟨⟨n1, matOf_len, fun row hr => (matOf_row row hr).1, fun v hv => ?_, ⟨by omega, by omega⟩, fun i v hi => ?_⟩, ?_⟩
    · have b := hvb v (hmem v hv)
      have := b.r.1
      have := b.d
      constructor <;> omega
    · have b := hvb v (hmem v (List.mem_of_getElem? hi))
      have v0 := b.r.1
      have v1 := b.d
      have v2 := b.n1
      have v3 := b.n2
      unfold mSteps
      rw [now_matOf plE m.items nd, fac_matOf plE m.items nd]
      refine okProd_of n1 fun x _ y _ => ?_
      obtain ⟨t0, t1⟩ := s.stp x y
      have a1 : 0 ≤ v.2 * K4.stp plE m.items x y := Int.mul_nonneg (by omega) t0
      have a2 : v.2 * K4.stp plE m.items x y ≤ 20 * 20 := Int.mul_le_mul v1 t1 t0 (by decide)
      have a3 : v.1 * Wm m ≤ 20 * 20 := Int.le_trans (Int.mul_le_mul_of_nonneg_right v3 (Int.le_of_lt w0)) (Int.mul_le_mul_of_nonneg_left w1 (by decide))
      have a4 : -(20 * 20) ≤ v.1 * Wm m := by
        have h1 := Int.mul_le_mul_of_nonneg_right v2 (Int.le_of_lt w0)
        have h2 : (-20 : Int) * Wm m = -(20 * Wm m) := Int.neg_mul ..
        have h3 : 20 * Wm m ≤ 20 * 20 := Int.mul_le_mul_of_nonneg_left w1 (by decide)
        omega
      split <;> omega
    · unfold mSteps
      rw [now_matOf plE m.items nd]
      have hle := least_eq s.hb s.M
      by_cases he : k = (mLeast r c m).length
      · rw [decide_eq_true (by omega), zero_matOf]
        intro x hx y hy
        have hd : (mLeast r c m).take k ++ (mLeast r c m).drop (k + 1) = mLeast r c m := by
          rw [List.take_of_length_le (by omega), List.drop_eq_nil_of_le (by omega), List.append_nil]
        rw [hd, hle]
        exact C.zero V hx hy
      · rw [decide_eq_false (by omega)]
        have hlt : k < (mLeast r c m).length := by omega
        have hsplit : mLeast r c m = (mLeast r c m).take k ++ (mLeast r c m)[k] :: (mLeast r c m).drop (k + 1) := by
          rw [← List.drop_eq_getElem_cons hlt, List.take_append_drop]
        have hne := C.left V (v0 := (mLeast r c m)[k]) (a := (mLeast r c m).take k) (b := (mLeast r c m).drop (k + 1)) (by
          rw [← hsplit]
          exact hle.symm)
        cases hz : isZero (matOf ys (prods ys plE m.items (((mLeast r c m).take k ++ (mLeast r c m).drop (k + 1)).map (Fv (Wm m))))) with
        | false => rfl
        | true =>
          exfalso
          refine hne ?_
          unfold trc
          rw [sum_congr (g := fun _ => 0) fun x hx => zero_matOf _ |>.mp hz x hx x hx, sum_zero]
theorem Set.okL (s : Set r c m ys) : OkL r c m ys.length (mSteps m ys) (Wm m) (mOrd (mVals r c m)) := by
  obtain ⟨b1, b2, b3, b4⟩ := b5_b (h := s.hb)
  have hle := least_eq s.hb s.M
  have hvb : ∀ v ∈ mLeast r c m, VB v := fun v hv => by
    rw [hle] at hv
    obtain ⟨e, he, rfl⟩ := List.mem_map.mp hv
    exact s.vb e he
  have hs : (mLeast r c m).Pairwise Gt := by
    rw [hle]
    exact s.V.sorted
  refine ⟨⟨by omega, by omega, by omega, by omega⟩, s.M.okMeas s.hb, s.M.okLeast s.hb, hle, s.okE.ll, fun i hi => pairwise_get hs hi, fun v hv => ?_, ?_, s.okE⟩
  · have b := hvb v hv
    have := b.r.1
    have := b.d
    constructor <;> omega
  · refine head_one hs hvb ?_
    rw [hle]
    refine (s.V.mem _).mpr ⟨_, List.mem_cons_self, (full_val s.hb s.M).symm⟩
theorem Set.okB (s : Set r c m ys) : OkB r c m ys.length (mSteps m ys) (Wm m) := by
  obtain ⟨w0, w1⟩ := s.w
  exact ⟨s.M.okOwn s.hb, s.vlen, s.sum, s.pos, pics_len s.hb s.pm, ⟨by omega, by omega⟩, fun k hk => s.okC hk, s.okL⟩
end
theorem goodAll : GoodAll := fun r c fs ys hb l1 l5 ok pm => by
  have hb5 := boards_in hb
  have M := measure_ok (r := r) (c := c) l1 l5 ok
  have s : Set r c (mMeasure r c fs) ys := ⟨hb5, M, pm⟩
  have t := told_facts l1 l5 ok
  refine ⟨⟨t.nd, t.ne, by have := t.len; omega, fun e he => ⟨t.pos e he, ?_⟩⟩, pics_okS hb5 M pm, by have := M.len; omega, s.okB⟩
  have h1 := mem_le_sum (fun e : Tup Int × Int => e.2) (fun x hx => Int.le_of_lt (t.pos x hx)) e he
  have h2 := t.sum
  have e1 : (mTold r c fs).map (fun e : Tup Int × Int => e.2) = (mTold r c fs).map (·.2) := rfl
  unfold B30
  omega
end K4
end
section
set_option Elab.async false
set_option linter.all false
set_option maxRecDepth 100000
set_option maxHeartbeats 0
namespace K4
open PySem PySem.Spec PyProof.Rows L2
/-! the end -/
section
variable {P : Program} {w : World} {K : PySem.W.Frag} {mg : Str → Option Value} {h base : Heap}
theorem at_of (X : K.In h) (G : h.Ns mainGlobals mg) (c : He.SaysD fa fn K) {i : Nat} {x : Str} {st : Stmt} (hf : fa[i]? = some (.glo x)) (hd : fn[i]? = some ⟨(x, none), x, x, defArgs st, defBody st, defScope st, [], []⟩) : At K mg x st := by
  obtain ⟨fd, F⟩ := c.def_ i hd
  exact ⟨_, fd, He.glo_ok X G (c.fact i hf), F⟩
theorem atL_of (X : K.In h) (G : h.Ns mainGlobals mg) (c : He.SaysD fa fn K) {i : Nat} {x : Str} {st : Stmt} (hf : fa[i]? = some (.glo x)) (hd : fn[i]? = some ⟨(x, none), x, x, defArgs st, defBody st, defScope st, [], []⟩) : AtL K mg x st (He.codeOf K (x, none)) := by
  obtain ⟨fd, F⟩ := c.def_ i hd
  refine ⟨_, fd, He.glo_ok X G (c.fact i hf), F, ?_⟩
  obtain ⟨oc, od, dV, kV, doc, pm, an, cdv, ct, osl, rfl, lk, hcd, _, _⟩ := F.ex
  obtain ⟨a, rfl⟩ := He.codeIn_ref hcd
  exact congrArg Value.ref (He.codeOf_eq (p := (x, none)) lk rfl).symm
theorem int_of (X : K.In h) (G : h.Ns mainGlobals mg) {x : Str} {i : Int} (c : (He.Fa.int x i).ok K = true) : ∃ u, mg x = some u ∧ L2.RelV (.int i) u := by
  obtain ⟨t, e⟩ := He.int_ok X G c
  exact ⟨_, e, t, rfl⟩
theorem fx_of (X : K.In h) (G : h.Ns mainGlobals mg) (c : He.SaysD fa fn K) : Fx mg :=
  ⟨He.free_ok X G (c.fact 52 (f := .free "isinstance") rfl),
    He.free_ok X G (c.fact 53 (f := .free "len") rfl),
    He.free_ok X G (c.fact 54 (f := .free "all") rfl),
    He.free_ok X G (c.fact 55 (f := .free "range") rfl),
    He.free_ok X G (c.fact 56 (f := .free "sorted") rfl),
    He.free_ok X G (c.fact 57 (f := .free "tuple") rfl),
    He.free_ok X G (c.fact 58 (f := .free "list") rfl),
    He.free_ok X G (c.fact 59 (f := .free "abs") rfl),
    He.free_ok X G (c.fact 60 (f := .free "sum") rfl),
    He.free_ok X G (c.fact 61 (f := .free "zip") rfl),
    He.free_ok X G (c.fact 62 (f := .free "dict") rfl),
    He.free_ok X G (c.fact 63 (f := .free "set") rfl),
    He.free_ok X G (c.fact 64 (f := .free "int") rfl),
    He.free_ok X G (c.fact 65 (f := .free "str") rfl),
    He.free_ok X G (c.fact 66 (f := .free "bool") rfl),
    int_of X G (c.fact 67 (f := .int "MOST_SIDE" 12) rfl),
    int_of X G (c.fact 68 (f := .int "MOST_LISTED" 500) rfl),
    int_of X G (c.fact 69 (f := .int "MOST_POWER" 200) rfl),
    int_of X G (c.fact 70 (f := .int "MOST_LINES" 12) rfl)⟩
def csT (K : PySem.W.Frag) : List (Addr × Addr) := [He.cT K ("own_values", none), He.cT K ("trace", none), He.cT K ("ordered", none)]
def T3 (K : PySem.W.Frag) : List (Addr × Str) := [((He.cT K ("own_values", none)).2, "own_values.<locals>.<lambda>"), ((He.cT K ("trace", none)).2, "trace.<locals>.<lambda>"), ((He.cT K ("ordered", none)).2, "ordered.<locals>.<lambda>")]
theorem apart (e : exT K = true) : (He.cT K ("own_values", none)).2 ≠ (He.cT K ("trace", none)).2 ∧ (He.cT K ("own_values", none)).2 ≠ (He.cT K ("ordered", none)).2 ∧ (He.cT K ("trace", none)).2 ≠ (He.cT K ("ordered", none)).2 := by
  unfold exT at e
  simp only [Bool.and_eq_true, bne_iff_ne, ne_eq] at e
  exact ⟨e.1.1, e.1.2, e.2⟩
theorem T3_un (e : exT K = true) {a : Addr} {q : Str} (hm : (a, q) ∈ T3 K) : ∀ p ∈ T3 K, p.1 = a → p.2 = q := by
  obtain ⟨n1, n2, n3⟩ := apart e
  unfold T3 at hm ⊢
  simp only [List.mem_cons, List.not_mem_nil, or_false, Prod.mk.injEq] at hm
  intro p hp hq
  simp only [List.mem_cons, List.not_mem_nil, or_false] at hp
  rcases hm with ⟨rfl, rfl⟩ | ⟨rfl, rfl⟩ | ⟨rfl, rfl⟩ <;> rcases hp with rfl | rfl | rfl <;> first | rfl | exact absurd hq n1 | exact absurd hq n2 | exact absurd hq n3 | exact absurd hq.symm n1 | exact absurd hq.symm n2 | exact absurd hq.symm n3
theorem lam0 (c : He.SaysX fa fn [] tf exT w h K) (TB : ∀ p ∈ csT K, LamX.TabB base mg p.1 p.2) : LamAt base mg (T3 K) (He.codeOf K ("own_values", none)) (He.cT K ("own_values", none)).2 "own_values.<locals>.<lambda>" :=
  ⟨TB (He.cT K ("own_values", none)) (by simp [csT]), by simp [T3], T3_un c.more (by simp [T3])⟩
theorem lam1 (c : He.SaysX fa fn [] tf exT w h K) (TB : ∀ p ∈ csT K, LamX.TabB base mg p.1 p.2) : LamAt base mg (T3 K) (He.codeOf K ("trace", none)) (He.cT K ("trace", none)).2 "trace.<locals>.<lambda>" :=
  ⟨TB (He.cT K ("trace", none)) (by simp [csT]), by simp [T3], T3_un c.more (by simp [T3])⟩
theorem lam2 (c : He.SaysX fa fn [] tf exT w h K) (TB : ∀ p ∈ csT K, LamX.TabB base mg p.1 p.2) : LamAt base mg (T3 K) (He.codeOf K ("ordered", none)) (He.cT K ("ordered", none)).2 "ordered.<locals>.<lambda>" :=
  ⟨TB (He.cT K ("ordered", none)) (by simp [csT]), by simp [T3], T3_un c.more (by simp [T3])⟩
theorem law_fn {f : Addr} {fd : FuncData} (X : K.In h) (G : h.Ns mainGlobals mg) (c : He.SaysX fa fn [] tf exT w h K) (TB : ∀ p ∈ csT K, LamX.TabB base mg p.1 p.2) (D : FnP K "law" s_law f fd) : FnOk P w K mg base CX0 9 f fd ["_law_script"] (sp_law K (T3 K)) := by
  have F0 := fx_of X G c.t.d
  have C_law_taken := cal_law_taken (P := P) (w := w) (K := K) (mg := mg) (base := base) (T := T3 K) (k := 0) (at_of X G c.t.d (i := 33) (x := "_law_taken") (st := s_law_taken) rfl rfl) F0 
  have C_law_pick := cal_law_pick (P := P) (w := w) (K := K) (mg := mg) (base := base) (T := T3 K) (k := 1) (at_of X G c.t.d (i := 34) (x := "_law_pick") (st := s_law_pick) rfl rfl) F0 (C_law_taken.mono (by decide : 1 ≤ 1))
  have C_law_board := cal_law_board (P := P) (w := w) (K := K) (mg := mg) (base := base) (T := T3 K) (k := 2) (at_of X G c.t.d (i := 49) (x := "_law_board") (st := s_law_board) rfl rfl) F0 (C_law_pick.mono (by decide : 2 ≤ 2))
  have C_law_throws := cal_law_throws (P := P) (w := w) (K := K) (mg := mg) (base := base) (T := T3 K) (k := 2) (at_of X G c.t.d (i := 45) (x := "_law_throws") (st := s_law_throws) rfl rfl) F0 (C_law_taken.mono (by decide : 1 ≤ 2)) (C_law_pick.mono (by decide : 2 ≤ 2))
  have C_law_normal := cal_law_normal (P := P) (w := w) (K := K) (mg := mg) (base := base) (T := T3 K) (k := 0) (at_of X G c.t.d (i := 40) (x := "_law_normal") (st := s_law_normal) rfl rfl) F0 
  have C_law_common := cal_law_common (P := P) (w := w) (K := K) (mg := mg) (base := base) (T := T3 K) (k := 0) (at_of X G c.t.d (i := 41) (x := "_law_common") (st := s_law_common) rfl rfl) F0 
  have C_law_measure := cal_law_measure (P := P) (w := w) (K := K) (mg := mg) (base := base) (T := T3 K) (k := 1) (at_of X G c.t.d (i := 46) (x := "_law_measure") (st := s_law_measure) rfl rfl) F0 (C_law_normal.mono (by decide : 1 ≤ 1)) (C_law_common.mono (by decide : 1 ≤ 1))
  have C_law_starts := cal_law_starts (P := P) (w := w) (K := K) (mg := mg) (base := base) (T := T3 K) (k := 0) (at_of X G c.t.d (i := 39) (x := "_law_starts") (st := s_law_starts) rfl rfl) F0 
  have C_law_whole := cal_law_whole (P := P) (w := w) (K := K) (mg := mg) (base := base) (T := T3 K) (k := 0) (at_of X G c.t.d (i := 36) (x := "_law_whole") (st := s_law_whole) rfl rfl) F0 
  have C_law_stroke := cal_law_stroke (P := P) (w := w) (K := K) (mg := mg) (base := base) (T := T3 K) (k := 0) (at_of X G c.t.d (i := 37) (x := "_law_stroke") (st := s_law_stroke) rfl rfl) F0 
  have C_law_strokes := cal_law_strokes (P := P) (w := w) (K := K) (mg := mg) (base := base) (T := T3 K) (k := 1) (at_of X G c.t.d (i := 38) (x := "_law_strokes") (st := s_law_strokes) rfl rfl) F0 (C_law_stroke.mono (by decide : 1 ≤ 1))
  have C_is_int := cal_is_int (P := P) (w := w) (K := K) (mg := mg) (base := base) (T := T3 K) (k := 0) (at_of X G c.t.d (i := 0) (x := "is_int") (st := s_is_int) rfl rfl) F0 
  have C_is_in := cal_is_in (P := P) (w := w) (K := K) (mg := mg) (base := base) (T := T3 K) (k := 1) (at_of X G c.t.d (i := 1) (x := "is_in") (st := s_is_in) rfl rfl) F0 (C_is_int.mono (by decide : 1 ≤ 1))
  have C_need_number := cal_need_number (P := P) (w := w) (K := K) (mg := mg) (base := base) (T := T3 K) (k := 2) (at_of X G c.t.d (i := 2) (x := "need_number") (st := s_need_number) rfl rfl) F0 (C_is_in.mono (by decide : 2 ≤ 2))
  have C_need_board := cal_need_board (P := P) (w := w) (K := K) (mg := mg) (base := base) (T := T3 K) (k := 3) (at_of X G c.t.d (i := 3) (x := "need_board") (st := s_need_board) rfl rfl) F0 (C_need_number.mono (by decide : 3 ≤ 3))
  have C_are_strokes := cal_are_strokes (P := P) (w := w) (K := K) (mg := mg) (base := base) (T := T3 K) (k := 2) (at_of X G c.t.d (i := 4) (x := "are_strokes") (st := s_are_strokes) rfl rfl) F0 (C_is_in.mono (by decide : 2 ≤ 2))
  have C_normal_of := cal_normal_of (P := P) (w := w) (K := K) (mg := mg) (base := base) (T := T3 K) (k := 0) (at_of X G c.t.d (i := 6) (x := "normal_of") (st := s_normal_of) rfl rfl) F0 
  have C_is_effect_of := cal_is_effect_of (P := P) (w := w) (K := K) (mg := mg) (base := base) (T := T3 K) (k := 3) (at_of X G c.t.d (i := 7) (x := "is_effect_of") (st := s_is_effect_of) rfl rfl) F0 (C_are_strokes.mono (by decide : 3 ≤ 3)) (C_normal_of.mono (by decide : 1 ≤ 3))
  have C_common := cal_common (P := P) (w := w) (K := K) (mg := mg) (base := base) (T := T3 K) (k := 0) (at_of X G c.t.d (i := 9) (x := "common") (st := s_common) rfl rfl) F0 
  have C_tidied := cal_tidied (P := P) (w := w) (K := K) (mg := mg) (base := base) (T := T3 K) (k := 1) (at_of X G c.t.d (i := 14) (x := "tidied") (st := s_tidied) rfl rfl) F0 (C_common.mono (by decide : 1 ≤ 1))
  have C_is_measure_of := cal_is_measure_of (P := P) (w := w) (K := K) (mg := mg) (base := base) (T := T3 K) (k := 4) (at_of X G c.t.d (i := 15) (x := "is_measure_of") (st := s_is_measure_of) rfl rfl) F0 (C_is_effect_of.mono (by decide : 4 ≤ 4)) (C_is_int.mono (by decide : 1 ≤ 4)) (C_tidied.mono (by decide : 2 ≤ 4))
  have C_need_measure := cal_need_measure (P := P) (w := w) (K := K) (mg := mg) (base := base) (T := T3 K) (k := 5) (at_of X G c.t.d (i := 16) (x := "need_measure") (st := s_need_measure) rfl rfl) F0 (C_need_board.mono (by decide : 4 ≤ 5)) (C_is_measure_of.mono (by decide : 5 ≤ 5))
  have C_need_lines := cal_need_lines (P := P) (w := w) (K := K) (mg := mg) (base := base) (T := T3 K) (k := 6) (at_of X G c.t.d (i := 23) (x := "need_lines") (st := s_need_lines) rfl rfl) F0 (C_need_board.mono (by decide : 4 ≤ 6)) (C_need_measure.mono (by decide : 6 ≤ 6))
  have C_subsets := cal_subsets (P := P) (w := w) (K := K) (mg := mg) (base := base) (T := T3 K) (k := 0) (at_of X G c.t.d (i := 24) (x := "subsets") (st := s_subsets) rfl rfl) F0 
  have C_chosen := cal_chosen (P := P) (w := w) (K := K) (mg := mg) (base := base) (T := T3 K) (k := 0) (at_of X G c.t.d (i := 20) (x := "chosen") (st := s_chosen) rfl rfl) F0 
  have C_power_of_two := cal_power_of_two (P := P) (w := w) (K := K) (mg := mg) (base := base) (T := T3 K) (k := 0) (at_of X G c.t.d (i := 21) (x := "power_of_two") (st := s_power_of_two) rfl rfl) F0 
  have C_times_of := cal_times_of (P := P) (w := w) (K := K) (mg := mg) (base := base) (T := T3 K) (k := 1) (at_of X G c.t.d (i := 22) (x := "times_of") (st := s_times_of) rfl rfl) F0 (C_chosen.mono (by decide : 1 ≤ 2)) (C_power_of_two.mono (by decide : 1 ≤ 1))
  have C_support_of := cal_support_of (P := P) (w := w) (K := K) (mg := mg) (base := base) (T := T3 K) (k := 0) (at_of X G c.t.d (i := 8) (x := "support_of") (st := s_support_of) rfl rfl) F0 
  have C_weight_of := cal_weight_of (P := P) (w := w) (K := K) (mg := mg) (base := base) (T := T3 K) (k := 0) (at_of X G c.t.d (i := 17) (x := "weight_of") (st := s_weight_of) rfl rfl) F0 
  have C_lowered := cal_lowered (P := P) (w := w) (K := K) (mg := mg) (base := base) (T := T3 K) (k := 1) (at_of X G c.t.d (i := 10) (x := "lowered") (st := s_lowered) rfl rfl) F0 (C_common.mono (by decide : 1 ≤ 1))
  have C_within_of := cal_within_of (P := P) (w := w) (K := K) (mg := mg) (base := base) (T := T3 K) (k := 2) (at_of X G c.t.d (i := 19) (x := "within_of") (st := s_within_of) rfl rfl) F0 (C_support_of.mono (by decide : 1 ≤ 2)) (C_weight_of.mono (by decide : 1 ≤ 2)) (C_lowered.mono (by decide : 2 ≤ 2))
  have C_ordered := cal_ordered (P := P) (w := w) (K := K) (mg := mg) (base := base) (T := T3 K) (k := 0) (atL_of X G c.t.d (i := 26) (x := "ordered") (st := s_ordered) rfl rfl) F0 (lam2 c TB) 
  have C_values_by := cal_values_by (P := P) (w := w) (K := K) (mg := mg) (base := base) (T := T3 K) (k := 3) (at_of X G c.t.d (i := 25) (x := "values_by") (st := s_values_by) rfl rfl) F0 (C_subsets.mono (by decide : 1 ≤ 3)) (C_times_of.mono (by decide : 3 ≤ 3)) (C_within_of.mono (by decide : 3 ≤ 3)) (C_ordered.mono (by decide : 1 ≤ 3))
  have C_own_values := cal_own_values (P := P) (w := w) (K := K) (mg := mg) (base := base) (T := T3 K) (k := 7) (atL_of X G c.t.d (i := 27) (x := "own_values") (st := s_own_values) rfl rfl) F0 (lam0 c TB) (C_need_lines.mono (by decide : 7 ≤ 7)) (C_values_by.mono (by decide : 4 ≤ 7))
  have C_law_share := cal_law_share (P := P) (w := w) (K := K) (mg := mg) (base := base) (T := T3 K) (k := 1) (at_of X G c.t.d (i := 42) (x := "_law_share") (st := s_law_share) rfl rfl) F0 (C_law_common.mono (by decide : 1 ≤ 1))
  have C_law_times := cal_law_times (P := P) (w := w) (K := K) (mg := mg) (base := base) (T := T3 K) (k := 2) (at_of X G c.t.d (i := 44) (x := "_law_times") (st := s_law_times) rfl rfl) F0 (C_law_share.mono (by decide : 2 ≤ 2))
  have C_law_plus := cal_law_plus (P := P) (w := w) (K := K) (mg := mg) (base := base) (T := T3 K) (k := 2) (at_of X G c.t.d (i := 43) (x := "_law_plus") (st := s_law_plus) rfl rfl) F0 (C_law_share.mono (by decide : 2 ≤ 2))
  have C_plus := cal_plus (P := P) (w := w) (K := K) (mg := mg) (base := base) (T := T3 K) (k := 2) (at_of X G c.t.d (i := 11) (x := "plus") (st := s_plus) rfl rfl) F0 (C_lowered.mono (by decide : 2 ≤ 2))
  have C_times := cal_times (P := P) (w := w) (K := K) (mg := mg) (base := base) (T := T3 K) (k := 2) (at_of X G c.t.d (i := 12) (x := "times") (st := s_times) rfl rfl) F0 (C_lowered.mono (by decide : 2 ≤ 2))
  have C_raised := cal_raised (P := P) (w := w) (K := K) (mg := mg) (base := base) (T := T3 K) (k := 3) (at_of X G c.t.d (i := 13) (x := "raised") (st := s_raised) rfl rfl) F0 (C_times.mono (by decide : 3 ≤ 3))
  have C_trace := cal_trace (P := P) (w := w) (K := K) (mg := mg) (base := base) (T := T3 K) (k := 7) (atL_of X G c.t.d (i := 28) (x := "trace") (st := s_trace) rfl rfl) F0 (lam1 c TB) (C_need_lines.mono (by decide : 7 ≤ 7)) (C_need_number.mono (by decide : 3 ≤ 7)) (C_values_by.mono (by decide : 4 ≤ 7)) (C_plus.mono (by decide : 3 ≤ 7)) (C_times.mono (by decide : 3 ≤ 7)) (C_raised.mono (by decide : 4 ≤ 7))
  have C_law_alike := cal_law_alike (P := P) (w := w) (K := K) (mg := mg) (base := base) (T := T3 K) (k := 0) (at_of X G c.t.d (i := 35) (x := "_law_alike") (st := s_law_alike) rfl rfl) F0 
  have C_law_product := cal_law_product (P := P) (w := w) (K := K) (mg := mg) (base := base) (T := T3 K) (k := 0) (at_of X G c.t.d (i := 50) (x := "_law_product") (st := s_law_product) rfl rfl) F0 
  have C_joins_of := cal_joins_of (P := P) (w := w) (K := K) (mg := mg) (base := base) (T := T3 K) (k := 1) (at_of X G c.t.d (i := 18) (x := "joins_of") (st := s_joins_of) rfl rfl) F0 (C_support_of.mono (by decide : 1 ≤ 1))
  have C_least_of := cal_least_of (P := P) (w := w) (K := K) (mg := mg) (base := base) (T := T3 K) (k := 3) (at_of X G c.t.d (i := 29) (x := "least_of") (st := s_least_of) rfl rfl) F0 (C_joins_of.mono (by decide : 2 ≤ 3)) (C_within_of.mono (by decide : 3 ≤ 3)) (C_ordered.mono (by decide : 1 ≤ 3))
  have C_least_values := cal_least_values (P := P) (w := w) (K := K) (mg := mg) (base := base) (T := T3 K) (k := 6) (at_of X G c.t.d (i := 30) (x := "least_values") (st := s_least_values) rfl rfl) F0 (C_need_measure.mono (by decide : 6 ≤ 6)) (C_least_of.mono (by decide : 4 ≤ 6))
  have C_second := cal_second (P := P) (w := w) (K := K) (mg := mg) (base := base) (T := T3 K) (k := 6) (at_of X G c.t.d (i := 31) (x := "second") (st := s_second) rfl rfl) F0 (C_need_measure.mono (by decide : 6 ≤ 6)) (C_least_of.mono (by decide : 4 ≤ 6))
  have C_law_support := cal_law_support (P := P) (w := w) (K := K) (mg := mg) (base := base) (T := T3 K) (k := 0) (at_of X G c.t.d (i := 47) (x := "_law_support") (st := s_law_support) rfl rfl) F0 
  have C_law_within := cal_law_within (P := P) (w := w) (K := K) (mg := mg) (base := base) (T := T3 K) (k := 2) (at_of X G c.t.d (i := 48) (x := "_law_within") (st := s_law_within) rfl rfl) F0 (C_law_support.mono (by decide : 1 ≤ 2)) (C_law_whole.mono (by decide : 1 ≤ 2)) (C_law_share.mono (by decide : 2 ≤ 2))
  have C_need_strokes := cal_need_strokes (P := P) (w := w) (K := K) (mg := mg) (base := base) (T := T3 K) (k := 3) (at_of X G c.t.d (i := 5) (x := "need_strokes") (st := s_need_strokes) rfl rfl) F0 (C_are_strokes.mono (by decide : 3 ≤ 3))
  have C_value_of := cal_value_of (P := P) (w := w) (K := K) (mg := mg) (base := base) (T := T3 K) (k := 6) (at_of X G c.t.d (i := 32) (x := "value_of") (st := s_value_of) rfl rfl) F0 (C_need_measure.mono (by decide : 6 ≤ 6)) (C_need_strokes.mono (by decide : 4 ≤ 6)) (C_support_of.mono (by decide : 1 ≤ 6)) (C_within_of.mono (by decide : 3 ≤ 6))
  exact FunD.ok (k := 8) D sc_law (len_law rfl) fun cdv A outer s H vs Q E hr h => ⟨t_law K (T3 K), PSs.nox (der_law F0 (C_law_board.mono (by decide : 3 ≤ 8)) (C_law_throws.mono (by decide : 3 ≤ 8)) (C_law_measure.mono (by decide : 2 ≤ 8)) (C_law_starts.mono (by decide : 1 ≤ 8)) (C_law_whole.mono (by decide : 1 ≤ 8)) (C_law_strokes.mono (by decide : 2 ≤ 8)) (C_own_values.mono (by decide : 8 ≤ 8)) (C_law_times.mono (by decide : 3 ≤ 8)) (C_law_plus.mono (by decide : 3 ≤ 8)) (C_law_share.mono (by decide : 2 ≤ 8)) (C_trace.mono (by decide : 8 ≤ 8)) (C_law_alike.mono (by decide : 3 ≤ 8)) (C_law_product.mono (by decide : 1 ≤ 8)) (C_least_values.mono (by decide : 7 ≤ 8)) (C_second.mono (by decide : 7 ≤ 8)) (C_law_taken.mono (by decide : 1 ≤ 8)) (C_law_support.mono (by decide : 1 ≤ 8)) (C_law_within.mono (by decide : 3 ≤ 8)) (C_value_of.mono (by decide : 7 ≤ 8)) hr), pure_law goodAll vs H Q E h⟩
theorem tabs_of {H : Hp} (hT : ∀ p ∈ csT K, H p.2 = some (.tbl #[])) : LamX.Tabs (T3 K) H := by
  have key : ∀ {a : Addr} {q : Str}, H a = some (.tbl #[]) → LamX.TabS H a q := fun ha => ⟨#[], ha, trivial, fun pos cv z => by cases z⟩
  intro p hp
  unfold T3 at hp
  unfold csT at hT
  simp only [List.mem_cons, List.not_mem_nil, or_false] at hp
  rcases hp with rfl | rfl | rfl
  · exact key (hT _ (by simp))
  · exact key (hT _ (by simp))
  · exact key (hT _ (by simp))
theorem says_tf {p : Addr × Addr} (hp : p ∈ csT K) : ∃ q ∈ tf, p = He.cT K q := by
  unfold csT at hp
  simp only [List.mem_cons, List.not_mem_nil, or_false] at hp
  rcases hp with rfl | rfl | rfl
  · exact ⟨_, by simp [tf], rfl⟩
  · exact ⟨_, by simp [tf], rfl⟩
  · exact ⟨_, by simp [tf], rfl⟩
end
end K4
end
open PySem PySem.W PySem.Calls PyProof.Rows
theorem PySem.Challenge.cw_chancestrokes_k04_whole_own_values_holds : PySem.Challenge.rw_chancestrokes_k04_whole_own_values.Holds := by
  w_on; o_law
  refine HandSHeadRun.head_any (r := OpenLaw.row PySem.Challenge.rw_chancestrokes_k04_whole_own_values) (q := view (OpenLaw.row PySem.Challenge.rw_chancestrokes_k04_whole_own_values).prog [67]) (H := K4.hk) (ob := K4.ob) (M := 6000) (loose := K4.nm) (d := HandSHeadRun.topDef (OpenLaw.row PySem.Challenge.rw_chancestrokes_k04_whole_own_values).prog 67) (kwd := []) K4.ob_eq
    (by kernel_rfl) (fun s => by kernel_rfl) K4.run (by kernel_rfl) (by kernel_rfl) (by kernel_rfl) (by rfl) (by first | assumption | decide +kernel) (by decide +kernel) ⟨rfl, rfl, rfl, rfl, rfl, by decide +kernel⟩ ?hw ?hc
  case hw => w_witness2
  case hc =>
    refine LamX.walk_ofTsE (l := PySem.Challenge.rw_chancestrokes_k04_whole_own_values) (n := 63) (k := 9) (x := "_law_script") (CX := fun _ => L2.CX0) rfl (by decide) (by kernel_rfl) ⟨rfl, by decide, by decide⟩ ?F (fun _ _ _ _ _ z => z)
    intro w mg fa h Y G hmg0
    obtain ⟨K, KX, c⟩ := Y
    have hmg : mg ("law" : PySem.Str) = some (.ref fa) := by
      have e : (HandSHeadRun.topDef (OpenLaw.row PySem.Challenge.rw_chancestrokes_k04_whole_own_values).prog 67).name = ("law" : PySem.Str) := by kernel_rfl
      rw [← e]
      exact hmg0
    obtain ⟨fd, F⟩ := c.t.d.def_ 51 (d := K4.d_law) rfl
    have e := hmg.symm.trans (He.glo_ok KX G (c.t.d.fact 51 (f := .glo "law") rfl))
    cases e
    have b := L2.FunD.bindsA (ps := ["_law_script"]) F fun _ _ _ _ _ _ us hl => match us, hl with | [_], _ => rfl
    refine ⟨K, KX, fd, K4.csT K, K4.sp_law K (K4.T3 K), fun p hp => ?_, fun p hp => ?_, fun p hp => ?_, fun s v => b s [v] rfl, fun H a ns hl _ hT hS => ⟨a, ns, rfl, hS, K4.tabs_of hT, fun _ => rfl⟩, fun base _ _ TB => K4.law_fn KX G c TB F⟩
    · obtain ⟨q, hq, rfl⟩ := K4.says_tf hp
      exact c.empty q hq
    · obtain ⟨q, hq, rfl⟩ := K4.says_tf hp
      exact c.out q hq
    · obtain ⟨q, hq, rfl⟩ := K4.says_tf hp
      exact PySem.W.codeHd_of_K KX (c.hd q hq)

