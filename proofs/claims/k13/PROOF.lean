import PyProof.Rows.All
import Wide.All
import OpenK.AllK
import Wide.FinOn
import HandS.Head0
import HandS.Head1
import HandS.Head2
import HandS.HeadHook1
import HandS.HeadHook2
import HandS.HeadHook3
import HandS.HeadHook4
import HandS.Head3
import HandS.Words
import HandS.ForMost
import HandS.IsInst
import HandS.Gcd
import HandS.Wide
import HandS.Zip
import HandS.Flow
import HandS.TupAny
import HandS.TupLe
import HandS.SortInts
import HandS.Style
import HandS.Deep
import KE.GoesEnum
import HandS.Defaults
import PyProof.ReprRoads
import PyProof.FitsInt
import KE.KDictZip
import HandS.Conv
import PySem.Challenge.RW_throughslots_k13_whole_differences_and_p
set_option Elab.async false
set_option linter.all false
set_option maxRecDepth 100000
set_option autoImplicit false
set_option maxHeartbeats 0
/-! Jd: what the head is asked about: constants as data, built-in functions. -/
namespace Jd
open PySem PySem.Spec PyProof.Rows L2
def leafB : Value → PyData → Bool
  | .none, .none => true
  | .bool b, .bool c => b == c
  | .int i _, .int j => decide (i = j)
  | .str x _, .str y => decide (x = y)
  | _, _ => false
def datB (K : PySem.W.Frag) : Nat → Value → PyData → Bool
  | 0, u, d => leafB u d
  | n + 1, u, d => match u, d with
    | .ref a, .tuple ds => (match K.lookup a with
      | some ⟨.type c, _, .seq its _, _⟩ => decide (c = "tuple") && (decide (its.size ≤ sizeLine) && (decide (its.toList.length = ds.length) && (its.toList.zip ds).all fun p => datB K n p.1 p.2))
      | _ => false)
    | u, d => leafB u d
def conD (K : PySem.W.Frag) (x : Str) (d : PyData) : Bool := match PySem.W.nsIn K mainGlobals x with
  | some (some u) => datB K 4 u d
  | _ => false
/-- the module's name x is that built-in function -/
def bltD (K : PySem.W.Frag) (x : Str) (id : String) : Bool := match PySem.W.nsIn K mainGlobals x with
  | some (some (.builtin i)) => decide (i = id)
  | _ => false
end Jd
namespace Q13
open PySem PySem.Spec PyProof.Rows L2 Jd
def topS (i : Nat) : Stmt := PySem.Challenge.pw_throughslots_k13_whole_differences_and_p.main.body.getD i (.Pass ⟨0, 0, 0, 0⟩)
abbrev s_is_list : Stmt := topS 2
abbrev s_is_integer : Stmt := topS 3
abbrev s_made : Stmt := topS 13
abbrev s_common : Stmt := topS 16
abbrev s_r_less : Stmt := topS 21
abbrev s__law_pot : Stmt := topS 44
abbrev s__law_draw : Stmt := topS 45
abbrev s__law_frac : Stmt := topS 47
abbrev s__law_below : Stmt := topS 52
abbrev s__law_pair : Stmt := topS 55
abbrev s_is_ratio : Stmt := topS 4
abbrev s_pair_of : Stmt := topS 14
abbrev s_r_plus : Stmt := topS 17
abbrev s_r_minus : Stmt := topS 18
abbrev s_r_times : Stmt := topS 19
abbrev s_r_over : Stmt := topS 20
abbrev s_r_total : Stmt := topS 22
abbrev s__law_pick : Stmt := topS 46
abbrev s__law_plus : Stmt := topS 48
abbrev s__law_minus : Stmt := topS 49
abbrev s__law_times : Stmt := topS 50
abbrev s__law_by : Stmt := topS 51
abbrev s_is_number : Stmt := topS 5
abbrev s_pairs_of : Stmt := topS 15
abbrev s_r_dot : Stmt := topS 23
abbrev s_numbers_by : Stmt := topS 29
abbrev s_longer_by : Stmt := topS 31
abbrev s_power_by : Stmt := topS 33
abbrev s__law_dot : Stmt := topS 53
abbrev s__law_small : Stmt := topS 56
abbrev s__law_total : Stmt := topS 58
abbrev s__law_difference : Stmt := topS 59
abbrev s__law_numbers : Stmt := topS 60
abbrev s__law_power : Stmt := topS 61
abbrev s_line_is_right : Stmt := topS 24
abbrev s_difference_by : Stmt := topS 30
abbrev s_point_is_right : Stmt := topS 34
abbrev s_do_numbers_rise : Stmt := topS 35
abbrev s_spot_of : Stmt := topS 38
abbrev s__law_squares : Stmt := topS 54
abbrev s__law_places : Stmt := topS 57
abbrev s__law_worth : Stmt := topS 62
abbrev s_law_by : Stmt := topS 32
abbrev s_points_are_right : Stmt := topS 36
abbrev s_difference_numbers : Stmt := topS 40
abbrev s_power_at : Stmt := topS 42
abbrev s_points_of : Stmt := topS 37
abbrev s_difference : Stmt := topS 39
abbrev s_power_law : Stmt := topS 41
abbrev s__law_right : Stmt := topS 63
abbrev s_law : Stmt := topS 64
def d_is_list : He.DefD := ⟨("is_list", none), "is_list", "is_list", defArgs s_is_list, defBody s_is_list, defScope s_is_list, [], []⟩
def d_is_integer : He.DefD := ⟨("is_integer", none), "is_integer", "is_integer", defArgs s_is_integer, defBody s_is_integer, defScope s_is_integer, [], []⟩
def d_is_ratio : He.DefD := ⟨("is_ratio", none), "is_ratio", "is_ratio", defArgs s_is_ratio, defBody s_is_ratio, defScope s_is_ratio, [], []⟩
def d_is_number : He.DefD := ⟨("is_number", none), "is_number", "is_number", defArgs s_is_number, defBody s_is_number, defScope s_is_number, [], []⟩
def d_made : He.DefD := ⟨("made", none), "made", "made", defArgs s_made, defBody s_made, defScope s_made, [], []⟩
def d_pair_of : He.DefD := ⟨("pair_of", none), "pair_of", "pair_of", defArgs s_pair_of, defBody s_pair_of, defScope s_pair_of, [], []⟩
def d_pairs_of : He.DefD := ⟨("pairs_of", none), "pairs_of", "pairs_of", defArgs s_pairs_of, defBody s_pairs_of, defScope s_pairs_of, [], []⟩
def d_common : He.DefD := ⟨("common", none), "common", "common", defArgs s_common, defBody s_common, defScope s_common, [], []⟩
def d_r_plus : He.DefD := ⟨("r_plus", none), "r_plus", "r_plus", defArgs s_r_plus, defBody s_r_plus, defScope s_r_plus, [], []⟩
def d_r_minus : He.DefD := ⟨("r_minus", none), "r_minus", "r_minus", defArgs s_r_minus, defBody s_r_minus, defScope s_r_minus, [], []⟩
def d_r_times : He.DefD := ⟨("r_times", none), "r_times", "r_times", defArgs s_r_times, defBody s_r_times, defScope s_r_times, [], []⟩
def d_r_over : He.DefD := ⟨("r_over", none), "r_over", "r_over", defArgs s_r_over, defBody s_r_over, defScope s_r_over, [], []⟩
def d_r_less : He.DefD := ⟨("r_less", none), "r_less", "r_less", defArgs s_r_less, defBody s_r_less, defScope s_r_less, [], []⟩
def d_r_total : He.DefD := ⟨("r_total", none), "r_total", "r_total", defArgs s_r_total, defBody s_r_total, defScope s_r_total, [], []⟩
def d_r_dot : He.DefD := ⟨("r_dot", none), "r_dot", "r_dot", defArgs s_r_dot, defBody s_r_dot, defScope s_r_dot, [], []⟩
def d_line_is_right : He.DefD := ⟨("line_is_right", none), "line_is_right", "line_is_right", defArgs s_line_is_right, defBody s_line_is_right, defScope s_line_is_right, [], []⟩
def d_numbers_by : He.DefD := ⟨("numbers_by", none), "numbers_by", "numbers_by", defArgs s_numbers_by, defBody s_numbers_by, defScope s_numbers_by, [], []⟩
def d_difference_by : He.DefD := ⟨("difference_by", none), "difference_by", "difference_by", defArgs s_difference_by, defBody s_difference_by, defScope s_difference_by, [], []⟩
def d_longer_by : He.DefD := ⟨("longer_by", none), "longer_by", "longer_by", defArgs s_longer_by, defBody s_longer_by, defScope s_longer_by, [], []⟩
def d_law_by : He.DefD := ⟨("law_by", none), "law_by", "law_by", defArgs s_law_by, defBody s_law_by, defScope s_law_by, [], []⟩
def d_power_by : He.DefD := ⟨("power_by", none), "power_by", "power_by", defArgs s_power_by, defBody s_power_by, defScope s_power_by, [], []⟩
def d_point_is_right : He.DefD := ⟨("point_is_right", none), "point_is_right", "point_is_right", defArgs s_point_is_right, defBody s_point_is_right, defScope s_point_is_right, [], []⟩
def d_do_numbers_rise : He.DefD := ⟨("do_numbers_rise", none), "do_numbers_rise", "do_numbers_rise", defArgs s_do_numbers_rise, defBody s_do_numbers_rise, defScope s_do_numbers_rise, [], []⟩
def d_points_are_right : He.DefD := ⟨("points_are_right", none), "points_are_right", "points_are_right", defArgs s_points_are_right, defBody s_points_are_right, defScope s_points_are_right, [], []⟩
def d_points_of : He.DefD := ⟨("points_of", none), "points_of", "points_of", defArgs s_points_of, defBody s_points_of, defScope s_points_of, [], []⟩
def d_spot_of : He.DefD := ⟨("spot_of", none), "spot_of", "spot_of", defArgs s_spot_of, defBody s_spot_of, defScope s_spot_of, [], []⟩
def d_difference : He.DefD := ⟨("difference", none), "difference", "difference", defArgs s_difference, defBody s_difference, defScope s_difference, [], []⟩
def d_difference_numbers : He.DefD := ⟨("difference_numbers", none), "difference_numbers", "difference_numbers", defArgs s_difference_numbers, defBody s_difference_numbers, defScope s_difference_numbers, [], []⟩
def d_power_law : He.DefD := ⟨("power_law", none), "power_law", "power_law", defArgs s_power_law, defBody s_power_law, defScope s_power_law, [], []⟩
def d_power_at : He.DefD := ⟨("power_at", none), "power_at", "power_at", defArgs s_power_at, defBody s_power_at, defScope s_power_at, [], []⟩
def d__law_pot : He.DefD := ⟨("_law_pot", none), "_law_pot", "_law_pot", defArgs s__law_pot, defBody s__law_pot, defScope s__law_pot, [], []⟩
def d__law_draw : He.DefD := ⟨("_law_draw", none), "_law_draw", "_law_draw", defArgs s__law_draw, defBody s__law_draw, defScope s__law_draw, [], []⟩
def d__law_pick : He.DefD := ⟨("_law_pick", none), "_law_pick", "_law_pick", defArgs s__law_pick, defBody s__law_pick, defScope s__law_pick, [], []⟩
def d__law_frac : He.DefD := ⟨("_law_frac", none), "_law_frac", "_law_frac", defArgs s__law_frac, defBody s__law_frac, defScope s__law_frac, [], []⟩
def d__law_plus : He.DefD := ⟨("_law_plus", none), "_law_plus", "_law_plus", defArgs s__law_plus, defBody s__law_plus, defScope s__law_plus, [], []⟩
def d__law_minus : He.DefD := ⟨("_law_minus", none), "_law_minus", "_law_minus", defArgs s__law_minus, defBody s__law_minus, defScope s__law_minus, [], []⟩
def d__law_times : He.DefD := ⟨("_law_times", none), "_law_times", "_law_times", defArgs s__law_times, defBody s__law_times, defScope s__law_times, [], []⟩
def d__law_by : He.DefD := ⟨("_law_by", none), "_law_by", "_law_by", defArgs s__law_by, defBody s__law_by, defScope s__law_by, [], []⟩
def d__law_below : He.DefD := ⟨("_law_below", none), "_law_below", "_law_below", defArgs s__law_below, defBody s__law_below, defScope s__law_below, [], []⟩
def d__law_dot : He.DefD := ⟨("_law_dot", none), "_law_dot", "_law_dot", defArgs s__law_dot, defBody s__law_dot, defScope s__law_dot, [], []⟩
def d__law_squares : He.DefD := ⟨("_law_squares", none), "_law_squares", "_law_squares", defArgs s__law_squares, defBody s__law_squares, defScope s__law_squares, [], []⟩
def d__law_pair : He.DefD := ⟨("_law_pair", none), "_law_pair", "_law_pair", defArgs s__law_pair, defBody s__law_pair, defScope s__law_pair, [], []⟩
def d__law_small : He.DefD := ⟨("_law_small", none), "_law_small", "_law_small", defArgs s__law_small, defBody s__law_small, defScope s__law_small, [], []⟩
def d__law_places : He.DefD := ⟨("_law_places", none), "_law_places", "_law_places", defArgs s__law_places, defBody s__law_places, defScope s__law_places, [], []⟩
def d__law_total : He.DefD := ⟨("_law_total", none), "_law_total", "_law_total", defArgs s__law_total, defBody s__law_total, defScope s__law_total, [], []⟩
def d__law_difference : He.DefD := ⟨("_law_difference", none), "_law_difference", "_law_difference", defArgs s__law_difference, defBody s__law_difference, defScope s__law_difference, [], []⟩
def d__law_numbers : He.DefD := ⟨("_law_numbers", none), "_law_numbers", "_law_numbers", defArgs s__law_numbers, defBody s__law_numbers, defScope s__law_numbers, [], []⟩
def d__law_power : He.DefD := ⟨("_law_power", none), "_law_power", "_law_power", defArgs s__law_power, defBody s__law_power, defScope s__law_power, [], []⟩
def d__law_worth : He.DefD := ⟨("_law_worth", none), "_law_worth", "_law_worth", defArgs s__law_worth, defBody s__law_worth, defScope s__law_worth, [], []⟩
def d__law_right : He.DefD := ⟨("_law_right", none), "_law_right", "_law_right", defArgs s__law_right, defBody s__law_right, defScope s__law_right, [], []⟩
def d_law : He.DefD := ⟨("law", none), "law", "law", defArgs s_law, defBody s_law, defScope s_law, [], []⟩
def fn0 : List He.DefD := [d_is_list, d_is_integer, d_is_ratio, d_is_number, d_made, d_pair_of, d_pairs_of, d_common, d_r_plus, d_r_minus, d_r_times, d_r_over, d_r_less, d_r_total, d_r_dot, d_line_is_right, d_numbers_by, d_difference_by, d_longer_by, d_law_by, d_power_by, d_point_is_right, d_do_numbers_rise, d_points_are_right, d_points_of, d_spot_of, d_difference, d_difference_numbers, d_power_law, d_power_at]
def fn1 : List He.DefD := [d__law_pot, d__law_draw, d__law_pick, d__law_frac, d__law_plus, d__law_minus, d__law_times, d__law_by, d__law_below, d__law_dot, d__law_squares, d__law_pair, d__law_small, d__law_places, d__law_total, d__law_difference, d__law_numbers, d__law_power, d__law_worth, d__law_right, d_law]
def fn : List He.DefD := fn0 ++ fn1
def fa0 : List He.Fa := [.glo "is_list", .glo "is_integer", .glo "is_ratio", .glo "is_number", .glo "made", .glo "pair_of", .glo "pairs_of", .glo "common", .glo "r_plus", .glo "r_minus", .glo "r_times", .glo "r_over", .glo "r_less", .glo "r_total", .glo "r_dot", .glo "line_is_right", .glo "numbers_by", .glo "difference_by", .glo "longer_by", .glo "law_by", .glo "power_by", .glo "point_is_right", .glo "do_numbers_rise", .glo "points_are_right", .glo "points_of", .glo "spot_of", .glo "difference", .glo "difference_numbers", .glo "power_law", .glo "power_at"]
def fa1 : List He.Fa := [.glo "_law_pot", .glo "_law_draw", .glo "_law_pick", .glo "_law_frac", .glo "_law_plus", .glo "_law_minus", .glo "_law_times", .glo "_law_by", .glo "_law_below", .glo "_law_dot", .glo "_law_squares", .glo "_law_pair", .glo "_law_small", .glo "_law_places", .glo "_law_total", .glo "_law_difference", .glo "_law_numbers", .glo "_law_power", .glo "_law_worth", .glo "_law_right", .glo "law", .free "abs", .free "all", .free "bool", .free "enumerate", .free "int", .free "isinstance", .free "len", .free "list", .free "max"]
def fa2 : List He.Fa := [.free "range", .free "repr", .free "sum", .free "tuple", .free "zip"]
def fa : List He.Fa := fa0 ++ fa1 ++ fa2
def ex (K : PySem.W.Frag) : Bool := conD K "MOST_POINTS" (.int 12) && (conD K "NOUGHT" (.tuple [(.int 0), (.int 1)]) && (conD K "ONE" (.tuple [(.int 1), (.int 1)]) && (bltD K "gcd" "math.gcd")))
def loose0 : List PySem.Str := ["is_list", "is_integer", "is_ratio", "is_number", "made", "pair_of", "pairs_of", "common", "r_plus", "r_minus", "r_times", "r_over", "r_less", "r_total", "r_dot", "line_is_right", "numbers_by", "difference_by", "longer_by", "law_by", "power_by", "point_is_right", "do_numbers_rise", "points_are_right", "points_of", "spot_of", "difference", "difference_numbers", "power_law", "power_at"]
def loose1 : List PySem.Str := ["_law_pot", "_law_draw", "_law_pick", "_law_frac", "_law_plus", "_law_minus", "_law_times", "_law_by", "_law_below", "_law_dot", "_law_squares", "_law_pair", "_law_small", "_law_places", "_law_total", "_law_difference", "_law_numbers", "_law_power", "_law_worth", "_law_right", "InvalidLine", "InvalidNumber", "InvalidPlaces", "InvalidPoints", "SlotError", "MOST_POINTS", "NOUGHT", "ONE"]
def loose : List PySem.Str := loose0 ++ loose1
abbrev R : PySem.W.OpenRow := PySem.W.OpenLaw.row PySem.Challenge.rw_throughslots_k13_whole_differences_and_p
abbrev hk : PySem.W.Hook := He.hookX 2 fa fn [] [] ex
def ob (s : PySem.W.SharedT) : He.AlX := He.obsX 2 fa fn [] [] ex (HandSHeadRun.getT s)
theorem ob_eq (s : PySem.W.SharedT) : ob s = hk.obs s.abs := He.obsX_eq (HandSHeadRun.getT_eq s)
theorem run (w : World) : HandSHeadRun.RunEqI R (PySem.W.view R.prog [0, 64]) hk ob 20000 loose w := by
  unfold HandSHeadRun.RunEqI
  kernel_rfl
end Q13
/-! Jd: values as data (PyData) over the hand layer: slots, what they stand for, and judgements whose reading is a total function on data. -/
namespace Jd
open PySem PySem.Spec PyProof.Rows L2

/-! ### heaps -/
theorem Same.seqT {K : PySem.W.Frag} {H H' : Hp} {a : Addr} {xs : List V} (e : Same H H') (h : SqT K H a xs) : SqT K H' a xs := by
  rcases h with (h | ⟨o, h⟩) | h
  · exact .inl (.inl (e _ _ h))
  · exact .inl (.inr ⟨o, e _ _ h⟩)
  · exact .inr h
theorem Same.rd {H H' : Hp} {a : Addr} {u : HO} (e : Same H H') (h : Rd H a u) : Rd H' a u := by
  rcases h with h | ⟨o, h⟩
  · exact .inl (e _ _ h)
  · exact .inr ⟨o, e _ _ h⟩
/-- a list whose object is told: tracked, locked, or of the written part -/
def Ls (K : PySem.W.Frag) (H : Hp) (a : Addr) (xs : List V) : Prop :=
  Rd H a (.lst xs) ∨ ∃ (its : Array Value) (n : Nat), K.lookup a = some { cls := .type "list", data := .seq its n } ∧ its.size ≤ sizeLine ∧ Vals xs its.toList
theorem Ls.sq {K : PySem.W.Frag} {H : Hp} {a : Addr} {xs : List V} (h : Ls K H a xs) : SqL K H a xs := by
  rcases h with h | ⟨its, n, e, z, r⟩
  · exact .inl h
  · exact .inr ⟨_, its, n, e, rfl, rfl, rfl, z, r⟩
theorem Ls.of {K : PySem.W.Frag} {H : Hp} {a : Addr} {xs : List V} (h : H a = some (.lst xs)) : Ls K H a xs := .inl (.inl h)
theorem Same.ls {K : PySem.W.Frag} {H H' : Hp} {a : Addr} {xs : List V} (e : Same H H') (h : Ls K H a xs) : Ls K H' a xs := by
  rcases h with h | h
  · exact .inl (Same.rd e h)
  · exact .inr h
/-! a value stands for a datum -/
mutual
inductive Dq (K : PySem.W.Frag) (H : Hp) : V → PyData → Prop where
  | non : Dq K H .non .none
  | bl (b : Bool) : Dq K H (.bl b) (.bool b)
  | int (i : Int) : Dq K H (.int i) (.int i)
  | str (x : Str) : Dq K H (.str x) (.str x)
  | lst {a : Addr} {xs : List V} {ds : List PyData} : Ls K H a xs → DqAll K H xs ds → Dq K H (.ref a) (.list ds)
  | tup {a : Addr} {xs : List V} {ds : List PyData} : SqT K H a xs → DqAll K H xs ds → Dq K H (.ref a) (.tuple ds)
inductive DqAll (K : PySem.W.Frag) (H : Hp) : List V → List PyData → Prop where
  | nil : DqAll K H [] []
  | cons {v : V} {vs : List V} {d : PyData} {ds : List PyData} : Dq K H v d → DqAll K H vs ds → DqAll K H (v :: vs) (d :: ds)
end
mutual
theorem dq_dp {K : PySem.W.Frag} {F : Hp} : ∀ {v : V} {d : PyData}, Dq K F v d → Dp K F v d
  | _, _, .non => .non
  | _, _, .bl b => .bl b
  | _, _, .int i => .int i
  | _, _, .str x => .str x
  | _, _, .lst h q => .lst h.sq (dqAll_dp q)
  | _, _, .tup h q => .tup h (dqAll_dp q)
theorem dqAll_dp {K : PySem.W.Frag} {F : Hp} : ∀ {vs : List V} {ds : List PyData}, DqAll K F vs ds → DpAll K F vs ds
  | _, _, .nil => .nil
  | _, _, .cons h q => .cons (dq_dp h) (dqAll_dp q)
end
mutual
theorem dp_mono {K : PySem.W.Frag} {F F' : Hp} (s : Same F F') : ∀ {v : V} {d : PyData}, Dq K F v d → Dq K F' v d
  | _, _, .non => .non
  | _, _, .bl b => .bl b
  | _, _, .int i => .int i
  | _, _, .str x => .str x
  | _, _, .lst h q => .lst (Same.ls s h) (dpAll_mono s q)
  | _, _, .tup h q => .tup (Same.seqT s h) (dpAll_mono s q)
theorem dpAll_mono {K : PySem.W.Frag} {F F' : Hp} (s : Same F F') : ∀ {vs : List V} {ds : List PyData}, DqAll K F vs ds → DqAll K F' vs ds
  | _, _, .nil => .nil
  | _, _, .cons h q => .cons (dp_mono s h) (dpAll_mono s q)
end
/-- both heaps have grown by the same new objects -/
structure Grow (F H F' H' : Hp) : Prop where
  h : Same H H'
  f : Same F F'
  fh : Same F' H'
  new : ∀ a o, F' a = some o → (F a = some o) ∨ H a = none
theorem Grow.refl {F H : Hp} (s : Same F H) : Grow F H F H := ⟨.refl H, .refl F, s, fun _ _ e => .inl e⟩
theorem same_upd {H : Hp} {p : Addr} {o : HO} (h : H p = none) : Same H (upd H p o) := fun b x e => by
  rw [upd_ne (ne_of_none e h)]
  exact e
theorem Grow.upd {F H : Hp} {p : Addr} {o : HO} (s : Same F H) (n : H p = none) : Grow F H (upd F p o) (upd H p o) := by
  refine ⟨same_upd n, same_upd (s.free n), fun b x e => ?_, fun b x e => ?_⟩
  · by_cases hb : b = p
    · subst hb
      rw [upd_same] at e ⊢
      exact e
    · rw [upd_ne hb] at e ⊢
      exact s _ _ e
  · by_cases hb : b = p
    · subst hb
      exact .inr n
    · rw [upd_ne hb] at e
      exact .inl e
/-- the frozen part grows by an object of the heap -/
def frz (F : Hp) (a : Addr) (o : HO) : Hp := upd F a o

/-! ### slots -/
inductive Sl where
  | un
  | dat (d : PyData)
  | own (io : Bool) (ds : List PyData)
abbrev En := List Sl
/-- a body's base: the address of the list that is lent to it, what it may change, the heap at its entry -/
structure Bs where
  pa : Addr
  io : Addr → Prop
  h0 : Hp
  f0 : Hp
def SlOk (K : PySem.W.Frag) (pa : Addr) (F H : Hp) (y : Option V) : Sl → Prop
  | .un => True
  | .dat d => ∃ v, y = some v ∧ Dq K F v d
  | .own io ds => ∃ a vs, y = some (.ref a) ∧ (io = true → a = pa) ∧ F a = none ∧ H a = some (.lst vs) ∧ DqAll K F vs ds
structure Rp (K : PySem.W.Frag) (B : Bs) (G : En) (σ : L2.St) (F H : Hp) : Prop where
  len : σ.length = G.length
  same : Same F H
  slot : ∀ (i : Nat) (x : Sl), G[i]? = some x → ∃ y, σ[i]? = some y ∧ SlOk K B.pa F H y x
  born : ∀ (i : Nat) io ds a, G[i]? = some (.own io ds) → σ[i]? = some (some (.ref a)) → B.h0 a = none ∨ B.io a
  dist : ∀ (i j : Nat) io jo ds es a, G[i]? = some (.own io ds) → G[j]? = some (.own jo es) → σ[i]? = some (some (.ref a)) → σ[j]? = some (some (.ref a)) → i = j
  keep : ∀ a o, B.h0 a = some o → ¬ B.io a → H a = some o
  alive : ∀ a, B.io a → H a ≠ none
  fnew : ∀ a o, F a = some o → B.f0 a = some o ∨ B.h0 a = none ∨ B.io a
/-- the slot i owns the list at a -/
def Owns (G : En) (σ : L2.St) (i : Nat) (a : Addr) : Prop := (∃ io ds, G[i]? = some (.own io ds)) ∧ σ[i]? = some (some (.ref a))
section
variable {K : PySem.W.Frag} {B : Bs} {G : En} {σ : L2.St} {F H F' H' : Hp}
theorem set_at {α : Type} {l : List α} {i : Nat} {x y : α} (e : (l.set i x)[i]? = some y) : i < l.length ∧ y = x := by
  have hl : i < l.length := by
    have := (List.getElem?_eq_some_iff.mp e).1
    simpa using this
  rw [List.getElem?_set_self hl] at e
  cases e
  exact ⟨hl, rfl⟩
/-- a new address is nobody's -/
theorem Rp.newFree (R : Rp K B G σ F H) {p : Addr} (n : H p = none) : B.h0 p = none := by
  cases e : B.h0 p with
  | none => rfl
  | some o =>
    by_cases io : B.io p
    · exact absurd n (R.alive p io)
    · have := R.keep p o e io
      rw [n] at this
      cases this
theorem Rp.grow (R : Rp K B G σ F H) (g : Grow F H F' H') : Rp K B G σ F' H' := by
  refine ⟨R.len, g.fh, fun i x e => ?_, R.born, R.dist, fun a o e n => g.h _ _ (R.keep a o e n), fun a io z => R.alive a io (g.h.free z), fun a o z => (g.new a o z).elim (R.fnew a o) fun n => .inr (.inl (R.newFree n))⟩
  obtain ⟨y, ey, ok⟩ := R.slot i x e
  refine ⟨y, ey, ?_⟩
  cases x with
  | un => trivial
  | dat d => obtain ⟨v, e1, q⟩ := ok; exact ⟨v, e1, dp_mono g.f q⟩
  | own io ds =>
    obtain ⟨a, vs, e1, pa, n, l, q⟩ := ok
    refine ⟨a, vs, e1, pa, ?_, g.h _ _ l, dpAll_mono g.f q⟩
    cases z : F' a with
    | none => rfl
    | some o =>
      rcases g.new a o z with w | w
      · rw [n] at w; cases w
      · rw [l] at w; cases w
/-- a slot's datum -/
theorem Rp.dat (R : Rp K B G σ F H) {i : Nat} {d : PyData} (e : G[i]? = some (.dat d)) : ∃ v, σ[i]? = some (some v) ∧ Dq K F v d := by
  obtain ⟨y, ey, v, rfl, q⟩ := R.slot i _ e
  exact ⟨v, ey, q⟩
theorem Rp.own (R : Rp K B G σ F H) {i : Nat} {io : Bool} {ds : List PyData} (e : G[i]? = some (.own io ds)) :
    ∃ a vs, σ[i]? = some (some (.ref a)) ∧ (io = true → a = B.pa) ∧ F a = none ∧ H a = some (.lst vs) ∧ DqAll K F vs ds := by
  obtain ⟨y, ey, a, vs, rfl, q⟩ := R.slot i _ e
  exact ⟨a, vs, ey, q⟩
theorem Rp.ownAt (R : Rp K B G σ F H) {i : Nat} {a : Addr} (h : Owns G σ i a) : ∃ vs, F a = none ∧ H a = some (.lst vs) := by
  obtain ⟨⟨io, ds, e⟩, ea⟩ := h
  obtain ⟨b, vs, eb, _, n, l, _⟩ := R.own e
  rw [ea] at eb
  cases eb
  exact ⟨vs, n, l⟩
theorem Rp.one (R : Rp K B G σ F H) {i j : Nat} {a : Addr} (h : Owns G σ i a) (h' : Owns G σ j a) : i = j := by
  obtain ⟨⟨io, ds, e⟩, ea⟩ := h
  obtain ⟨⟨jo, es, e'⟩, ea'⟩ := h'
  exact R.dist i j io jo ds es a e e' ea ea'
/-- a slot gets what is no list of its own -/
theorem Rp.put (R : Rp K B G σ F H) {i : Nat} {y : Option V} {x : Sl} (hx : ∀ io ds, x ≠ .own io ds) (ok : SlOk K B.pa F H y x) : Rp K B (G.set i x) (σ.set i y) F H := by
  have ne : ∀ {j : Nat} {io : Bool} {zs : List PyData}, (G.set i x)[j]? = some (.own io zs) → i ≠ j := fun {j io zs} e h => by
    subst h
    exact hx io zs (set_at e).2.symm
  refine ⟨by simp [R.len], R.same, fun j z e => ?_, fun j io ds a e1 e2 => ?_, fun j k io jo ds es a e1 e2 e3 e4 => ?_, R.keep, R.alive, R.fnew⟩
  · by_cases h : i = j
    · subst h
      obtain ⟨hl, rfl⟩ := set_at e
      exact ⟨y, List.getElem?_set_self (by rw [R.len]; exact hl), ok⟩
    · rw [List.getElem?_set_ne h] at e ⊢
      exact R.slot j z e
  · have h := ne e1
    rw [List.getElem?_set_ne h] at e1 e2
    exact R.born j io ds a e1 e2
  · have h1 := ne e1
    have h2 := ne e2
    rw [List.getElem?_set_ne h1] at e1 e3
    rw [List.getElem?_set_ne h2] at e2 e4
    exact R.dist j k io jo ds es a e1 e2 e3 e4
/-- a slot gets a datum -/
theorem Rp.set (R : Rp K B G σ F H) {i : Nat} {v : V} {d : PyData} (q : Dq K F v d) : Rp K B (G.set i (.dat d)) (σ.set i (some v)) F H :=
  R.put (fun _ _ z => nomatch z) ⟨v, rfl, q⟩
/-- a slot is forgotten -/
theorem Rp.wipe1 (R : Rp K B G σ F H) {i : Nat} {y : Option V} : Rp K B (G.set i .un) (σ.set i y) F H := R.put (fun _ _ z => nomatch z) trivial
/-- what is told of a slot is forgotten -/
theorem Rp.forget (R : Rp K B G σ F H) {i : Nat} : Rp K B (G.set i .un) σ F H := by
  have ne : ∀ {j : Nat} {io : Bool} {zs : List PyData}, (G.set i .un)[j]? = some (.own io zs) → i ≠ j := fun {j io zs} e h => by
    subst h
    exact nomatch (set_at e).2
  refine ⟨by simp [R.len], R.same, fun j z e => ?_, fun j io ds a e1 e2 => ?_, fun j k io jo ds es a e1 e2 e3 e4 => ?_, R.keep, R.alive, R.fnew⟩
  · by_cases h : i = j
    · subst h
      obtain ⟨hl, rfl⟩ := set_at e
      exact ⟨σ[i]'(by rw [R.len]; exact hl), List.getElem?_eq_getElem _, trivial⟩
    · rw [List.getElem?_set_ne h] at e
      exact R.slot j z e
  · rw [List.getElem?_set_ne (ne e1)] at e1
    exact R.born j io ds a e1 e2
  · rw [List.getElem?_set_ne (ne e1)] at e1
    rw [List.getElem?_set_ne (ne e2)] at e2
    exact R.dist j k io jo ds es a e1 e2 e3 e4
/-- a slot gets a new list of its own -/
theorem Rp.setOwn (R : Rp K B G σ F H) {i : Nat} {a : Addr} {vs : List V} {ds : List PyData} (n : F a = none) (l : H a = some (.lst vs)) (q : DqAll K F vs ds) (hb : B.h0 a = none ∨ B.io a)
    (hd : ∀ j, ¬ Owns G σ j a) : Rp K B (G.set i (.own false ds)) (σ.set i (some (.ref a))) F H := by
  have at_i : ∀ {io : Bool} {zs : List PyData}, (G.set i (.own false ds))[i]? = some (.own io zs) → i < σ.length ∧ io = false ∧ zs = ds := fun {io zs} e => by
    obtain ⟨hl, z⟩ := set_at e
    cases z
    exact ⟨by rw [R.len]; exact hl, rfl, rfl⟩
  refine ⟨by simp [R.len], R.same, fun j x e => ?_, fun j io es b e1 e2 => ?_, fun j k io jo es zs b e1 e2 e3 e4 => ?_, R.keep, R.alive, R.fnew⟩
  · by_cases h : i = j
    · subst h
      obtain ⟨hl, rfl⟩ := set_at e
      exact ⟨_, List.getElem?_set_self (by rw [R.len]; exact hl), a, vs, rfl, (fun z => nomatch z), n, l, q⟩
    · rw [List.getElem?_set_ne h] at e ⊢
      exact R.slot j x e
  · by_cases h : i = j
    · subst h
      obtain ⟨hl, _⟩ := at_i e1
      rw [List.getElem?_set_self hl] at e2
      cases e2
      exact hb
    · rw [List.getElem?_set_ne h] at e1 e2
      exact R.born j io es b e1 e2
  · by_cases h1 : i = j
    · by_cases h2 : i = k
      · exact h1.symm.trans h2
      · subst h1
        obtain ⟨hl, _⟩ := at_i e1
        rw [List.getElem?_set_self hl] at e3
        cases e3
        rw [List.getElem?_set_ne h2] at e2 e4
        exact absurd ⟨⟨jo, zs, e2⟩, e4⟩ (hd k)
    · by_cases h2 : i = k
      · subst h2
        obtain ⟨hl, _⟩ := at_i e2
        rw [List.getElem?_set_self hl] at e4
        cases e4
        rw [List.getElem?_set_ne h1] at e1 e3
        exact absurd ⟨⟨io, es, e1⟩, e3⟩ (hd j)
      · rw [List.getElem?_set_ne h1] at e1 e3
        rw [List.getElem?_set_ne h2] at e2 e4
        exact R.dist j k io jo es zs b e1 e2 e3 e4
/-- the list that a slot owns is changed in place; all else stays or grows -/
theorem Rp.changeG (R : Rp K B G σ F H) {i : Nat} {io : Bool} {a : Addr} {ws : List V} {ds es : List PyData} (e : G[i]? = some (.own io ds)) (ea : σ[i]? = some (some (.ref a)))
    (sF : Same F F') (sH : ∀ b o, b ≠ a → H b = some o → H' b = some o) (fh : Same F' H') (new : ∀ b o, F' b = some o → F b = some o ∨ H b = none) (l' : H' a = some (.lst ws)) (q : DqAll K F' ws es) :
    Rp K B (G.set i (.own io es)) σ F' H' := by
  obtain ⟨a', vs, ea', pa, n, l, _⟩ := R.own e
  rw [ea] at ea'
  cases ea'
  have hl : i < G.length := (List.getElem?_eq_some_iff.mp e).1
  have nF : ∀ b us, F b = none → H b = some (.lst us) → F' b = none := fun b us h1 h2 => by
    cases z : F' b with
    | none => rfl
    | some o =>
      rcases new b o z with w | w
      · rw [h1] at w; cases w
      · rw [h2] at w; cases w
  have back : ∀ {j : Nat} {jo : Bool} {zs : List PyData}, (G.set i (.own io es))[j]? = some (.own jo zs) → ∃ jo z, G[j]? = some (.own jo z) := fun {j jo zs} h => by
    by_cases hj : i = j
    · subst hj
      exact ⟨io, ds, e⟩
    · rw [List.getElem?_set_ne hj] at h
      exact ⟨jo, zs, h⟩
  refine ⟨by simp [R.len], fh, fun j x h => ?_, fun j jo zs b h1 h2 => ?_, fun j k jo ko zs ys b h1 h2 h3 h4 => ?_, fun b o h hn => ?_, fun b hb z => ?_, fun b o z => (new b o z).elim (R.fnew b o) fun n => .inr (.inl (R.newFree n))⟩
  · by_cases hj : i = j
    · subst hj
      obtain ⟨_, rfl⟩ := set_at h
      exact ⟨_, ea, a, ws, rfl, pa, nF a vs n l, l', q⟩
    · rw [List.getElem?_set_ne hj] at h
      obtain ⟨y, ey, ok⟩ := R.slot j x h
      refine ⟨y, ey, ?_⟩
      cases x with
      | un => trivial
      | dat d => obtain ⟨v, e1, q1⟩ := ok; exact ⟨v, e1, dp_mono sF q1⟩
      | own jo zs =>
        obtain ⟨b, us, rfl, pb, nb, lb, qb⟩ := ok
        exact ⟨b, us, rfl, pb, nF b us nb lb, sH b _ (fun z => hj (by subst z; exact R.one ⟨⟨io, ds, e⟩, ea⟩ ⟨⟨jo, zs, h⟩, ey⟩)) lb, dpAll_mono sF qb⟩
  · obtain ⟨jo, z, hz⟩ := back h1
    exact R.born j jo z b hz h2
  · obtain ⟨jo, z, hz⟩ := back h1
    obtain ⟨ko, z', hz'⟩ := back h2
    exact R.dist j k jo ko z z' b hz hz' h3 h4
  · by_cases hb : b = a
    · subst hb
      rcases R.born i io ds b e ea with z | z
      · rw [h] at z; cases z
      · exact absurd z hn
    · exact sH b o hb (R.keep b o h hn)
  · by_cases hba : b = a
    · subst hba
      rw [l'] at z
      cases z
    · cases w : H b with
      | none => exact R.alive b hb w
      | some o =>
        rw [sH b o hba w] at z
        cases z
theorem Rp.change (R : Rp K B G σ F H) {i : Nat} {io : Bool} {a : Addr} {ws : List V} {ds es : List PyData} (e : G[i]? = some (.own io ds)) (ea : σ[i]? = some (some (.ref a))) (q : DqAll K F ws es) :
    Rp K B (G.set i (.own io es)) σ F (upd H a (.lst ws)) := by
  obtain ⟨a', vs, ea', pa, n, l, _⟩ := R.own e
  rw [ea] at ea'
  cases ea'
  refine R.changeG e ea (.refl F) (fun b o hb h => by rw [upd_ne hb]; exact h) (fun b o h => ?_) (fun b o h => .inl h) upd_same q
  rw [upd_ne (fun z => by subst z; rw [n] at h; cases h)]
  exact R.same _ _ h
/-- a list that no slot owns is frozen -/
theorem Rp.frzNew (R : Rp K B G σ F H) {p : Addr} {ws : List V} (n : F p = none) (l : H p = some (.lst ws)) (ho : ∀ j, ¬ Owns G σ j p) (hb : B.h0 p = none ∨ B.io p) : Rp K B G σ (upd F p (.lst ws)) H := by
  have s1 : Same F (upd F p (.lst ws)) := same_upd n
  refine ⟨R.len, fun b x h => ?_, fun i x e => ?_, R.born, R.dist, R.keep, R.alive, fun b o z => ?_⟩
  · by_cases hb : b = p
    · subst hb
      rw [upd_same] at h
      rw [← h]
      exact l
    · rw [upd_ne hb] at h
      exact R.same _ _ h
  · obtain ⟨y, ey, ok⟩ := R.slot i x e
    refine ⟨y, ey, ?_⟩
    cases x with
    | un => trivial
    | dat d => obtain ⟨v, e1, q1⟩ := ok; exact ⟨v, e1, dp_mono s1 q1⟩
    | own io zs =>
      obtain ⟨b, us, rfl, pb, nb, lb, qb⟩ := ok
      refine ⟨b, us, rfl, pb, ?_, lb, dpAll_mono s1 qb⟩
      rw [upd_ne (fun z => by subst z; exact ho i ⟨⟨io, zs, e⟩, ey⟩)]
      exact nb
  · by_cases hbp : b = p
    · subst hbp
      exact .inr hb
    · rw [upd_ne hbp] at z
      exact R.fnew b o z
/-- the list that a slot owns is frozen -/
theorem Rp.freeze (R : Rp K B G σ F H) {i : Nat} {io : Bool} {ds : List PyData} (e : G[i]? = some (.own io ds)) :
    ∃ a F', σ[i]? = some (some (.ref a)) ∧ Same F F' ∧ Dq K F' (.ref a) (.list ds) ∧ Rp K B (G.set i (.dat (.list ds))) σ F' H := by
  obtain ⟨a, vs, ea, pa, n, l, q⟩ := R.own e
  have hl : i < G.length := (List.getElem?_eq_some_iff.mp e).1
  have s1 : Same F (upd F a (.lst vs)) := same_upd n
  have dd : Dq K (upd F a (.lst vs)) (.ref a) (.list ds) := .lst (Ls.of upd_same) (dpAll_mono s1 q)
  have R1 := R.forget (i := i)
  have R2 := R1.frzNew n l fun j ⟨⟨jo, zs, h⟩, ej⟩ => by
    by_cases hj : i = j
    · subst hj
      exact nomatch (set_at h).2
    · rw [List.getElem?_set_ne hj] at h
      exact hj (R.one ⟨⟨io, ds, e⟩, ea⟩ ⟨⟨jo, zs, h⟩, ej⟩)
  have R2 := R2 (R.born i io ds a e ea)
  refine ⟨a, _, ea, s1, dd, ?_⟩
  have R3 := R2.set (i := i) dd
  rw [List.set_set] at R3
  have es : σ.set i (some (.ref a)) = σ := List.ext_getElem? fun k => by
    by_cases hk : i = k
    · subst hk
      rw [List.getElem?_set_self (by rw [R.len]; exact hl), ea]
    · rw [List.getElem?_set_ne hk]
  rw [es] at R3
  exact R3
theorem Rp.newOwn (R : Rp K B G σ F H) {p : Addr} (n : H p = none) : ∀ j, ¬ Owns G σ j p := fun j h => by
  obtain ⟨vs, _, l⟩ := R.ownAt h
  rw [n] at l
  cases l
/-- a new object is laid, nobody's yet -/
theorem Rp.lay (R : Rp K B G σ F H) {p : Addr} {o : HO} (n : H p = none) : Rp K B G σ F (upd H p o) := by
  refine ⟨R.len, fun b x e => ?_, fun i x e => ?_, R.born, R.dist, fun a x e hn => ?_, fun a ha z => ?_, R.fnew⟩
  · have := R.same _ _ e
    rw [upd_ne (ne_of_none this n)]
    exact this
  · obtain ⟨y, ey, ok⟩ := R.slot i x e
    refine ⟨y, ey, ?_⟩
    cases x with
    | un => trivial
    | dat d => exact ok
    | own io ds =>
      obtain ⟨a, vs, e1, pa, nf, l, q⟩ := ok
      exact ⟨a, vs, e1, pa, nf, by rw [upd_ne (ne_of_none l n)]; exact l, q⟩
  · have := R.keep a x e hn
    rw [upd_ne (ne_of_none this n)]
    exact this
  · by_cases hp : a = p
    · subst hp
      rw [upd_same] at z
      cases z
    · rw [upd_ne hp] at z
      exact R.alive a ha z
/-! another base: the heap as it stands -/
def Bs.now (B : Bs) (G : En) (σ : L2.St) (F H : Hp) : Bs := ⟨B.pa, fun a => ∃ i, Owns G σ i a, H, F⟩
theorem Rp.now (R : Rp K B G σ F H) : Rp K (B.now G σ F H) G σ F H := by
  refine ⟨R.len, R.same, R.slot, fun i io ds a e1 e2 => .inr ⟨i, ⟨io, ds, e1⟩, e2⟩, R.dist, fun a o e _ => e, fun a ⟨i, h⟩ z => ?_, fun a o z => .inl z⟩
  obtain ⟨vs, _, l⟩ := R.ownAt h
  rw [z] at l
  cases l
theorem Rp.back {G' : En} {σ' : L2.St} (R : Rp K B G σ F H) (R' : Rp K (B.now G σ F H) G' σ' F' H') : Rp K B G' σ' F' H' := by
  have live : ∀ b, H b ≠ none → H' b ≠ none := fun b h z => by
    by_cases hb : ∃ i, Owns G σ i b
    · exact R'.alive b hb z
    · cases w : H b with
      | none => exact h w
      | some o =>
        rw [R'.keep b o w hb] at z
        cases z
  refine ⟨R'.len, R'.same, R'.slot, fun i io ds a e1 e2 => ?_, R'.dist, fun a o e n => ?_, fun a ha => live a (R.alive a ha), fun a o z => ?_⟩
  · rcases R'.born i io ds a e1 e2 with z | ⟨j, ⟨⟨jo, es, h⟩, ej⟩⟩
    · exact .inl (R.newFree z)
    · exact R.born j jo es a h ej
  · have h := R.keep a o e n
    refine R'.keep a o h fun ⟨j, ⟨⟨jo, es, h1⟩, ej⟩⟩ => ?_
    rcases R.born j jo es a h1 ej with z | z
    · rw [e] at z; cases z
    · exact n z
  · rcases R'.fnew a o z with w | w | ⟨j, ⟨⟨jo, es, h1⟩, ej⟩⟩
    · exact R.fnew a o w
    · exact .inr (.inl (R.newFree w))
    · exact .inr (R.born j jo es a h1 ej)
end
end Jd
/-! Jd: judgements and the rules of expressions. -/
namespace Jd
open PySem PySem.Spec PyProof.Rows L2

/-! ### what a part of an expression tells: a datum, or «the list at that slot» -/
inductive Ag where
  | dat (d : PyData)
  | slot (i : Nat)
def AgOk (K : PySem.W.Frag) (F : Hp) (σ : L2.St) (v : V) : Ag → Prop
  | .dat d => Dq K F v d
  | .slot i => σ[i]? = some (some v)
def Sl.get : Sl → Option PyData
  | .un => none
  | .dat d => some d
  | .own _ ds => some (.list ds)
def Ag.get (G : En) : Ag → Option PyData
  | .dat d => some d
  | .slot i => (G[i]?).bind Sl.get
def getAll (G : En) : List Ag → Option (List PyData)
  | [] => some []
  | a :: r => (a.get G).bind fun d => (getAll G r).bind fun ds => some (d :: ds)
inductive AgsOk (K : PySem.W.Frag) (F : Hp) (σ : L2.St) : List V → List Ag → Prop where
  | nil : AgsOk K F σ [] []
  | cons {v : V} {vs : List V} {a : Ag} {as : List Ag} : AgOk K F σ v a → AgsOk K F σ vs as → AgsOk K F σ (v :: vs) (a :: as)
/-- a datum that may be the content of a list that is not frozen -/
def Pk (K : PySem.W.Frag) (F H : Hp) (v : V) (d : PyData) : Prop := Dq K F v d ∨ ∃ a ws ds, v = .ref a ∧ d = .list ds ∧ F a = none ∧ H a = some (.lst ws) ∧ DqAll K F ws ds
inductive PkAll (K : PySem.W.Frag) (F H : Hp) : List V → List PyData → Prop where
  | nil : PkAll K F H [] []
  | cons {v : V} {vs : List V} {d : PyData} {ds : List PyData} : Pk K F H v d → PkAll K F H vs ds → PkAll K F H (v :: vs) (d :: ds)
section
variable {K : PySem.W.Frag} {B : Bs} {G : En} {σ : L2.St} {F H F' H' : Hp}
theorem AgOk.mono (s : Same F F') {v : V} {a : Ag} (h : AgOk K F σ v a) : AgOk K F' σ v a := by
  cases a with
  | dat d => exact dp_mono s h
  | slot i => exact h
theorem AgsOk.mono (s : Same F F') {vs : List V} {as : List Ag} (h : AgsOk K F σ vs as) : AgsOk K F' σ vs as := by
  induction h with
  | nil => exact .nil
  | cons h _ ih => exact .cons (h.mono s) ih
theorem Rp.get (R : Rp K B G σ F H) {v : V} {a : Ag} {d : PyData} (h : AgOk K F σ v a) (e : a.get G = some d) : Pk K F H v d := by
  cases a with
  | dat c =>
    cases e
    exact .inl h
  | slot i =>
    obtain ⟨x, ex, e2⟩ := Option.bind_eq_some_iff.mp (show (G[i]?).bind Sl.get = some d from e)
    obtain ⟨y, ey, ok⟩ := R.slot i x ex
    have h' : σ[i]? = some (some v) := h
    rw [ey] at h'
    cases h'
    cases x with
    | un => cases e2
    | dat c =>
      cases e2
      obtain ⟨w, e3, q⟩ := ok
      cases e3
      exact .inl q
    | own io ds =>
      cases e2
      obtain ⟨b, ws, e3, pa, n, l, q⟩ := ok
      cases e3
      exact .inr ⟨b, ws, ds, rfl, rfl, n, l, q⟩
theorem Rp.getAll (R : Rp K B G σ F H) {vs : List V} {as : List Ag} (h : AgsOk K F σ vs as) : ∀ {ds : List PyData}, getAll G as = some ds → PkAll K F H vs ds := by
  induction h with
  | nil =>
    intro ds e
    cases e
    exact .nil
  | cons h _ ih =>
    intro ds e
    obtain ⟨d, e1, e2⟩ := Option.bind_eq_some_iff.mp e
    obtain ⟨ds', e3, e4⟩ := Option.bind_eq_some_iff.mp e2
    cases e4
    exact .cons (R.get h e1) (ih e3)
/-! what a datum says of its value -/
theorem Pk.int {v : V} {i : Int} (h : Pk K F H v (.int i)) : v = .int i := by
  rcases h with h | ⟨_, _, _, _, e, _⟩
  · cases h; rfl
  · cases e
theorem Pk.bl {v : V} {b : Bool} (h : Pk K F H v (.bool b)) : v = .bl b := by
  rcases h with h | ⟨_, _, _, _, e, _⟩
  · cases h; rfl
  · cases e
theorem Pk.str {v : V} {x : Str} (h : Pk K F H v (.str x)) : v = .str x := by
  rcases h with h | ⟨_, _, _, _, e, _⟩
  · cases h; rfl
  · cases e
theorem Pk.non {v : V} (h : Pk K F H v .none) : v = .non := by
  rcases h with h | ⟨_, _, _, _, e, _⟩
  · cases h; rfl
  · cases e
theorem Pk.lst (s : Same F H) {v : V} {ds : List PyData} (h : Pk K F H v (.list ds)) : ∃ a ws, v = .ref a ∧ Ls K H a ws ∧ DqAll K F ws ds := by
  rcases h with h | ⟨a, ws, es, rfl, e, _, l, q⟩
  · cases h with
    | lst h q => exact ⟨_, _, rfl, Same.ls s h, q⟩
  · cases e
    exact ⟨a, ws, rfl, Ls.of l, q⟩
theorem Pk.tup (s : Same F H) {v : V} {ds : List PyData} (h : Pk K F H v (.tuple ds)) : ∃ a ws, v = .ref a ∧ SqT K H a ws ∧ DqAll K F ws ds ∧ Dq K F v (.tuple ds) := by
  rcases h with h | ⟨a, ws, es, rfl, e, _⟩
  · have h' := h
    cases h with
    | tup h q => exact ⟨_, _, rfl, Same.seqT s h, q, h'⟩
  · cases e
theorem Pk.dp (s : Same F H) {v : V} {d : PyData} (h : Pk K F H v d) : Dq K H v d := by
  rcases h with h | ⟨a, ws, es, rfl, rfl, _, l, q⟩
  · exact dp_mono s h
  · exact .lst (Ls.of l) (dpAll_mono s q)
theorem dp_get {vs : List V} {ds : List PyData} (h : DqAll K F vs ds) : ∀ {i : Nat} {d : PyData}, ds[i]? = some d → ∃ v, vs[i]? = some v ∧ Dq K F v d := by
  induction vs generalizing ds with
  | nil => cases h; intro i d e; simp at e
  | cons v vs ih =>
    cases h with
    | cons h1 h2 =>
      intro i d e
      cases i with
      | zero => cases e; exact ⟨v, rfl, h1⟩
      | succ i => exact ih h2 (by simpa using e)
theorem dp_getV {vs : List V} {ds : List PyData} (h : DqAll K F vs ds) : ∀ {i : Nat} {v : V}, vs[i]? = some v → ∃ d, ds[i]? = some d ∧ Dq K F v d := by
  induction vs generalizing ds with
  | nil => intro i d e; simp at e
  | cons v vs ih =>
    cases h with
    | cons h1 h2 =>
      intro i d e
      cases i with
      | zero => cases e; exact ⟨_, rfl, h1⟩
      | succ i => exact ih h2 (by simpa using e)
theorem dp_len {vs : List V} {ds : List PyData} (h : DqAll K F vs ds) : vs.length = ds.length := by
  induction vs generalizing ds with
  | nil => cases h; rfl
  | cons v vs ih =>
    cases h with
    | cons _ h2 => simp [ih h2]
theorem dp_take {vs : List V} {ds : List PyData} (h : DqAll K F vs ds) : ∀ n : Nat, DqAll K F (vs.take n) (ds.take n) := by
  induction vs generalizing ds with
  | nil => cases h; intro n; simp; exact .nil
  | cons v vs ih =>
    cases h with
    | cons h1 h2 =>
      intro n
      cases n with
      | zero => exact .nil
      | succ n => exact .cons h1 (ih h2 n)
theorem dp_drop {vs : List V} {ds : List PyData} (h : DqAll K F vs ds) : ∀ n : Nat, DqAll K F (vs.drop n) (ds.drop n) := by
  induction vs generalizing ds with
  | nil => cases h; intro n; simp; exact .nil
  | cons v vs ih =>
    cases h with
    | cons h1 h2 =>
      intro n
      cases n with
      | zero => exact .cons h1 h2
      | succ n => exact ih h2 n
theorem dp_app {vs ws : List V} {ds es : List PyData} (h : DqAll K F vs ds) (h' : DqAll K F ws es) : DqAll K F (vs ++ ws) (ds ++ es) := by
  induction vs generalizing ds with
  | nil => cases h; exact h'
  | cons v vs ih =>
    cases h with
    | cons h1 h2 => exact .cons h1 (ih h2)
theorem dp_set {vs : List V} {ds : List PyData} (h : DqAll K F vs ds) {v : V} {d : PyData} (q : Dq K F v d) : ∀ i : Nat, DqAll K F (vs.set i v) (ds.set i d) := by
  induction vs generalizing ds with
  | nil => cases h; intro n; exact .nil
  | cons v vs ih =>
    cases h with
    | cons h1 h2 =>
      intro n
      cases n with
      | zero => exact .cons q h2
      | succ n => exact .cons h1 (ih h2 n)
theorem dp_erase {vs : List V} {ds : List PyData} (h : DqAll K F vs ds) : ∀ i : Nat, DqAll K F (vs.eraseIdx i) (ds.eraseIdx i) := by
  induction vs generalizing ds with
  | nil => cases h; intro n; exact .nil
  | cons v vs ih =>
    cases h with
    | cons h1 h2 =>
      intro n
      cases n with
      | zero => exact h2
      | succ n => exact .cons h1 (ih h2 n)
end

/-! ### readings by functions on data -/
def tJ (K : PySem.W.Frag) (f : En → Option (PyData × En)) : TE := fun σ H Q => ∃ (B : Bs) (F : Hp) (G : En) (d : PyData) (G' : En), Rp K B G σ F H ∧ f G = some (d, G') ∧
  ∀ v F' H', Rp K B G' σ F' H' → Same F F' → Dq K F' v d → Q v H'
def tP (K : PySem.W.Frag) (f : En → Option (Ag × En)) : TE := fun σ H Q => ∃ (B : Bs) (F : Hp) (G : En) (a : Ag) (G' : En), Rp K B G σ F H ∧ f G = some (a, G') ∧
  ∀ v F' H', Rp K B G' σ F' H' → Same F F' → AgOk K F' σ v a → Q v H'
def tPs (K : PySem.W.Frag) (f : En → Option (List Ag × En)) : TA := fun σ H Q => ∃ (B : Bs) (F : Hp) (G : En) (as : List Ag) (G' : En), Rp K B G σ F H ∧ f G = some (as, G') ∧
  ∀ vs F' H', Rp K B G' σ F' H' → Same F F' → AgsOk K F' σ vs as → Q vs H'
def tJs (K : PySem.W.Frag) (f : En → Option (List PyData × En)) : TA := fun σ H Q => ∃ (B : Bs) (F : Hp) (G : En) (ds : List PyData) (G' : En), Rp K B G σ F H ∧ f G = some (ds, G') ∧
  ∀ vs F' H', Rp K B G' σ F' H' → Same F F' → DqAll K F' vs ds → Q vs H'
def tT (K : PySem.W.Frag) (f : En → Option (Bool × En)) : TT := fun σ H Q => ∃ (B : Bs) (F : Hp) (G : En) (b : Bool) (G' : En), Rp K B G σ F H ∧ f G = some (b, G') ∧
  ∀ F' H', Rp K B G' σ F' H' → Same F F' → Q b H'
/-- a new list -/
def tN (K : PySem.W.Frag) (f : En → Option (List PyData × En)) : TE := fun σ H Q => ∃ (B : Bs) (F : Hp) (G : En) (ds : List PyData) (G' : En), Rp K B G σ F H ∧ f G = some (ds, G') ∧
  ∀ p ws F' H', Rp K B G' σ F' H' → Same F F' → F' p = none → H' p = some (.lst ws) → DqAll K F' ws ds → B.h0 p = none → (∀ j, ¬ Owns G' σ j p) → Q (.ref p) H'
abbrev JE (X : Cx) (e : Expr) (f : En → Option (PyData × En)) : Prop := PE X e (tJ X.K f)
abbrev JP (X : Cx) (e : Expr) (f : En → Option (Ag × En)) : Prop := PE X e (tP X.K f)
abbrev JN (X : Cx) (e : Expr) (f : En → Option (List PyData × En)) : Prop := PE X e (tN X.K f)
abbrev JPs (X : Cx) (es : List Expr) (f : En → Option (List Ag × En)) : Prop := PA X es (tPs X.K f)
abbrev JEs (X : Cx) (es : List Expr) (f : En → Option (List PyData × En)) : Prop := PA X es (tJs X.K f)
abbrev JT (X : Cx) (e : Expr) (f : En → Option (Bool × En)) : Prop := PT X e (tT X.K f)
abbrev JW (X : Cx) (e : Expr) (f : En → Option (Bool × En)) : Prop := PW X e (tT X.K f)
section
variable {X : Cx} {e a b c : Expr} {es : List Expr} {pos p p2 : Pos}
theorem pe_im {t t' : TE} (h : PE X e t) (i : ∀ σ H Q, t' σ H Q → t σ H Q) : PE X e t' := ⟨fun pins s σ H Q I w => h.run pins s σ H Q I (i _ _ _ w)⟩
theorem pt_im {t t' : TT} (h : PT X e t) (i : ∀ σ H Q, t' σ H Q → t σ H Q) : PT X e t' := ⟨fun pins s σ H Q I w => h.run pins s σ H Q I (i _ _ _ w)⟩
theorem pw_im {t t' : TT} (h : PW X e t) (i : ∀ σ H Q, t' σ H Q → t σ H Q) : PW X e t' := ⟨fun wh pins s σ H Q I w => h.run wh pins s σ H Q I (i _ _ _ w)⟩
theorem pa_im {t t' : TA} (h : PA X es t) (i : ∀ σ H Q, t' σ H Q → t σ H Q) : PA X es t' := ⟨fun ps pins s σ H Q I w => h.run ps pins s σ H Q I (i _ _ _ w)⟩

/-! names and constants -/
def dPv (i : Nat) : En → Option (Ag × En) := fun G => ((G[i]?).bind Sl.get).bind fun _ => some (.slot i, G)
theorem jp_var {x : Str} (i : Nat) (h : PE X (.Name x pos) (tVar i)) : JP X (.Name x pos) (dPv i) := pe_im h fun σ H Q ⟨B, F, G, ag, G', R, e, k⟩ => by
  obtain ⟨d, e1, e2⟩ := Option.bind_eq_some_iff.mp e
  cases e2
  obtain ⟨x, ex, e3⟩ := Option.bind_eq_some_iff.mp e1
  obtain ⟨y, ey, ok⟩ := R.slot i x ex
  cases x with
  | un => cases e3
  | dat c =>
    obtain ⟨v, rfl, q⟩ := ok
    exact ⟨v, ey, k v F H R (.refl F) ey⟩
  | own io ds =>
    obtain ⟨a, vs, rfl, _⟩ := ok
    exact ⟨_, ey, k _ F H R (.refl F) ey⟩
def dVar (i : Nat) : En → Option (PyData × En) := fun G => match G[i]? with
  | some (.dat d) => some (d, G)
  | some (.own _ ds) => some (.list ds, G.set i (.dat (.list ds)))
  | _ => none
theorem je_var {x : Str} (i : Nat) (h : PE X (.Name x pos) (tVar i)) : JE X (.Name x pos) (dVar i) := pe_im h fun σ H Q ⟨B, F, G, d, G', R, e, k⟩ => by
  unfold dVar at e
  split at e
  · rename_i d' eg
    cases e
    obtain ⟨v, ey, q⟩ := R.dat eg
    exact ⟨v, ey, k v F H R (.refl F) q⟩
  · rename_i io ds eg
    cases e
    obtain ⟨a, F', ea, s, q, R'⟩ := R.freeze eg
    exact ⟨_, ea, k _ F' H R' s q⟩
  · cases e
def dC (d : PyData) : En → Option (PyData × En) := fun G => some (d, G)
theorem je_c {v : V} {d : PyData} (h : PE X e (tC v)) (q : ∀ F, Dq X.K F v d) : JE X e (dC d) := pe_im h fun σ H Q ⟨B, F, G, d', G', R, e, k⟩ => by
  cases e
  exact k v F H R (.refl F) (q F)
theorem je_int {i : Int} {j : Nat} : JE X (.Constant (.int i) j pos) (dC (.int i)) := je_c pe_int fun _ => .int i
theorem je_bl {b : Bool} {j : Nat} : JE X (.Constant (.bool b) j pos) (dC (.bool b)) := je_c pe_bl fun _ => .bl b
theorem je_non {j : Nat} : JE X (.Constant .none j pos) (dC .none) := je_c pe_non fun _ => .non
theorem je_str {x : Str} {j : Nat} : JE X (.Constant (.str x) j pos) (dC (.str x)) := je_c pe_str fun _ => .str x
theorem je_glob {x : Str} {v : V} {u : Value} {d : PyData} (hg : Gl X x) (hm : X.mg x = some u) (r : RelV v u) (q : ∀ F, Dq X.K F v d) (hd : (x == ("__debug__" : Str)) = false := by decide) : JE X (.Name x pos) (dC d) := je_c (pe_glob hg hm r hd) q
/-- a datum as a part -/
def dAg (f : En → Option (PyData × En)) : En → Option (Ag × En) := fun G => (f G).bind fun r => some (.dat r.1, r.2)
theorem jp_of {f : En → Option (PyData × En)} (h : JE X e f) : JP X e (dAg f) := pe_im h fun σ H Q ⟨B, F, G, ag, G', R, e, k⟩ => by
  obtain ⟨⟨d, G1⟩, e1, e2⟩ := Option.bind_eq_some_iff.mp e
  cases e2
  exact ⟨B, F, G, d, _, R, e1, fun v F' H' R' s q => k v F' H' R' s q⟩
/-! lists of parts -/
def dPs0 : En → Option (List Ag × En) := fun G => some ([], G)
def dPsC (f : En → Option (Ag × En)) (g : En → Option (List Ag × En)) : En → Option (List Ag × En) := fun G => (f G).bind fun r => (g r.2).bind fun q => some (r.1 :: q.1, q.2)
theorem jps_nil : JPs X [] dPs0 := pa_im pa_nil fun σ H Q ⟨B, F, G, as, G', R, e, k⟩ => by
  cases e
  exact k [] F H R (.refl F) .nil
theorem jps_cons {f : En → Option (Ag × En)} {g : En → Option (List Ag × En)} (h : JP X e f) (hr : JPs X es g) (hs : starEach (e :: es) X.env = (false, eval e X.env) :: starEach es X.env := by rfl) : JPs X (e :: es) (dPsC f g) :=
  pa_im (pa_cons h hr hs) fun σ H Q ⟨B, F, G, as, G', R, e, k⟩ => by
    obtain ⟨⟨a, G1⟩, e1, e2⟩ := Option.bind_eq_some_iff.mp e
    obtain ⟨⟨as', G2⟩, e3, e4⟩ := Option.bind_eq_some_iff.mp e2
    cases e4
    exact ⟨B, F, G, a, G1, R, e1, fun v F1 H1 R1 s1 q1 => ⟨B, F1, G1, as', G2, R1, e3, fun vs F2 H2 R2 s2 q2 => k _ F2 H2 R2 (s1.trans s2) (.cons (q1.mono s2) q2)⟩⟩
def dEs0 : En → Option (List PyData × En) := fun G => some ([], G)
def dEsC (f : En → Option (PyData × En)) (g : En → Option (List PyData × En)) : En → Option (List PyData × En) := fun G => (f G).bind fun r => (g r.2).bind fun q => some (r.1 :: q.1, q.2)
theorem jes_nil : JEs X [] dEs0 := pa_im pa_nil fun σ H Q ⟨B, F, G, as, G', R, e, k⟩ => by
  cases e
  exact k [] F H R (.refl F) .nil
theorem jes_cons {f : En → Option (PyData × En)} {g : En → Option (List PyData × En)} (h : JE X e f) (hr : JEs X es g) (hs : starEach (e :: es) X.env = (false, eval e X.env) :: starEach es X.env := by rfl) : JEs X (e :: es) (dEsC f g) :=
  pa_im (pa_cons h hr hs) fun σ H Q ⟨B, F, G, as, G', R, e, k⟩ => by
    obtain ⟨⟨a, G1⟩, e1, e2⟩ := Option.bind_eq_some_iff.mp e
    obtain ⟨⟨as', G2⟩, e3, e4⟩ := Option.bind_eq_some_iff.mp e2
    cases e4
    exact ⟨B, F, G, a, G1, R, e1, fun v F1 H1 R1 s1 q1 => ⟨B, F1, G1, as', G2, R1, e3, fun vs F2 H2 R2 s2 q2 => k _ F2 H2 R2 (s1.trans s2) (.cons (dp_mono s2 q1) q2)⟩⟩
/-! displays -/
def dTup (f : En → Option (List PyData × En)) : En → Option (PyData × En) := fun G => (f G).bind fun r => if r.1.length ≤ 1000 then some (.tuple r.1, r.2) else none
theorem small1k {n : Nat} (h : n ≤ 1000) : n ≤ sizeLine := Nat.le_of_lt (small1000 h)
theorem je_tup {x1 : Nat} {f : En → Option (List PyData × En)} (h : JEs X es f) : JE X (.Tuple es x1 pos) (dTup f) := pe_im (pe_tup h) fun σ H Q ⟨B, F, G, d, G', R, e, k⟩ => by
  obtain ⟨⟨ds, G1⟩, e1, e2⟩ := Option.bind_eq_some_iff.mp e
  dsimp only at e2
  split at e2
  · rename_i hl
    cases e2
    refine ⟨B, F, G, _, _, R, e1, fun vs F1 H1 R1 s1 q1 => ⟨by rw [dp_len q1]; exact small1k hl, fun p np => ?_⟩⟩
    have g := Grow.upd (o := .tup vs) R1.same np
    exact k _ _ _ (R1.grow g) (s1.trans g.f) (.tup (SqT.of upd_same) (dpAll_mono g.f q1))
  · cases e2
def dLst (f : En → Option (List PyData × En)) : En → Option (List PyData × En) := fun G => (f G).bind fun r => if r.1.length ≤ 1000 then some (r.1, r.2) else none
theorem jn_lst {f : En → Option (List PyData × En)} (h : JEs X es f) : JN X (.List es pos) (dLst f) := pe_im (pe_lst h) fun σ H Q ⟨B, F, G, d, G', R, e, k⟩ => by
  obtain ⟨⟨ds, G1⟩, e1, e2⟩ := Option.bind_eq_some_iff.mp e
  dsimp only at e2
  split at e2
  · rename_i hl
    cases e2
    refine ⟨B, F, G, _, _, R, e1, fun vs F1 H1 R1 s1 q1 => ⟨by rw [dp_len q1]; exact small1k hl, fun p np => ?_⟩⟩
    exact k p vs F1 _ (R1.lay np) s1 (R1.same.free np) upd_same q1 (R1.newFree np) (R1.newOwn np)
  · cases e2
/-- a new list, frozen -/
def dFz (f : En → Option (List PyData × En)) : En → Option (PyData × En) := fun G => (f G).bind fun r => some (.list r.1, r.2)
theorem je_fz {f : En → Option (List PyData × En)} (h : JN X e f) : JE X e (dFz f) := pe_im h fun σ H Q ⟨B, F, G, d, G', R, e, k⟩ => by
  obtain ⟨⟨ds, G1⟩, e1, e2⟩ := Option.bind_eq_some_iff.mp e
  cases e2
  refine ⟨B, F, G, ds, G1, R, e1, fun p ws F1 H1 R1 s1 n l q hb ho => ?_⟩
  have s2 : Same F1 (upd F1 p (.lst ws)) := same_upd n
  exact k _ _ _ (R1.frzNew n l ho (.inl hb)) (s1.trans s2) (.lst (Ls.of upd_same) (dpAll_mono s2 q))
end

/-! ### prims: rules of the layer whose answer is a function on data -/
def Pr (K : PySem.W.Frag) (r : List V → Hp → VK → Prop) (g : List PyData → Option PyData) : Prop :=
  ∀ (F H : Hp) (vs : List V) (ds : List PyData) (z : PyData) (Q : VK), Same F H → PkAll K F H vs ds → g ds = some z → (∀ u F' H', Grow F H F' H' → Dq K F' u z → Q u H') → r vs H Q
def Pr2 (K : PySem.W.Frag) (r : R2) (g : PyData → PyData → Option PyData) : Prop :=
  ∀ (F H : Hp) (v w : V) (x y z : PyData) (Q : VK), Same F H → Pk K F H v x → Pk K F H w y → g x y = some z → (∀ u F' H', Grow F H F' H' → Dq K F' u z → Q u H') → r v w H Q
def Pr1 (K : PySem.W.Frag) (r : V → Hp → VK → Prop) (g : PyData → Option PyData) : Prop :=
  ∀ (F H : Hp) (v : V) (x z : PyData) (Q : VK), Same F H → Pk K F H v x → g x = some z → (∀ u F' H', Grow F H F' H' → Dq K F' u z → Q u H') → r v H Q
/-- .. that make a new list -/
def PrN (K : PySem.W.Frag) (r : List V → Hp → VK → Prop) (g : List PyData → Option (List PyData)) : Prop :=
  ∀ (F H : Hp) (vs : List V) (ds zs : List PyData) (Q : VK), Same F H → PkAll K F H vs ds → g ds = some zs → (∀ p ws, H p = none → DqAll K F ws zs → Q (.ref p) (upd H p (.lst ws))) → r vs H Q
def PrN2 (K : PySem.W.Frag) (r : R2) (g : PyData → PyData → Option (List PyData)) : Prop :=
  ∀ (F H : Hp) (v w : V) (x y : PyData) (zs : List PyData) (Q : VK), Same F H → Pk K F H v x → Pk K F H w y → g x y = some zs → (∀ p ws, H p = none → DqAll K F ws zs → Q (.ref p) (upd H p (.lst ws))) → r v w H Q
/-- two rules, by what the data are -/
theorem Pr2.or {K : PySem.W.Frag} {r r' : R2} {g g' : PyData → PyData → Option PyData} (h : Pr2 K r g) (h' : Pr2 K r' g') : Pr2 K (fun x y H Q => r x y H Q ∨ r' x y H Q) (fun x y => (g x y).or (g' x y)) := fun F H v w x y z Q s p1 p2 e k => by
  cases q : g x y with
  | some z' =>
    simp only [q, Option.or_some, Option.none_or] at e
    cases e
    exact .inl (h F H v w x y _ Q s p1 p2 q k)
  | none =>
    simp only [q, Option.or_some, Option.none_or] at e
    exact .inr (h' F H v w x y _ Q s p1 p2 e k)
theorem Pr.or {K : PySem.W.Frag} {r r' : List V → Hp → VK → Prop} {g g' : List PyData → Option PyData} (h : Pr K r g) (h' : Pr K r' g') : Pr K (fun x H Q => r x H Q ∨ r' x H Q) (fun x => (g x).or (g' x)) := fun F H vs ds z Q s p1 e k => by
  cases q : g ds with
  | some z' =>
    simp only [q, Option.or_some, Option.none_or] at e
    cases e
    exact .inl (h F H vs ds _ Q s p1 q k)
  | none =>
    simp only [q, Option.or_some, Option.none_or] at e
    exact .inr (h' F H vs ds _ Q s p1 e k)
/-- a prim that makes a new list, the list frozen -/
theorem PrN2.fz {K : PySem.W.Frag} {r : R2} {g : PyData → PyData → Option (List PyData)} (h : PrN2 K r g) : Pr2 K r (fun x y => (g x y).bind fun zs => some (.list zs)) := fun F H v w x y z Q s p1 p2 e k => by
  obtain ⟨zs, e1, e2⟩ := Option.bind_eq_some_iff.mp e
  cases e2
  refine h F H v w x y zs Q s p1 p2 e1 fun p ws n q => ?_
  have g := Grow.upd (o := .lst ws) s n
  exact k _ _ _ g (.lst (Ls.of upd_same) (dpAll_mono g.f q))
theorem PrN.fz {K : PySem.W.Frag} {r : List V → Hp → VK → Prop} {g : List PyData → Option (List PyData)} (h : PrN K r g) : Pr K r (fun x => (g x).bind fun zs => some (.list zs)) := fun F H vs ds z Q s p1 e k => by
  obtain ⟨zs, e1, e2⟩ := Option.bind_eq_some_iff.mp e
  cases e2
  refine h F H vs ds zs Q s p1 e1 fun p ws n q => ?_
  have g := Grow.upd (o := .lst ws) s n
  exact k _ _ _ g (.lst (Ls.of upd_same) (dpAll_mono g.f q))
section
variable {X : Cx} {e a b c : Expr} {es : List Expr} {pos p p2 : Pos} {fa fb : En → Option (Ag × En)} {fs : En → Option (List Ag × En)}
def dOp (g : PyData → PyData → Option PyData) (fa fb : En → Option (Ag × En)) : En → Option (PyData × En) := fun G =>
  (fa G).bind fun r => (fb r.2).bind fun q => (r.1.get q.2).bind fun x => (q.1.get q.2).bind fun y => (g x y).bind fun z => some (z, q.2)
/-- the heart of two parts -/
theorem op2 {K : PySem.W.Frag} {r : R2} {g : PyData → PyData → Option PyData} (hp : Pr2 K r g) {σ : L2.St} {H : Hp} {Q : VK} (h : tJ K (dOp g fa fb) σ H Q) : tOp r (tP K fa) (tP K fb) σ H Q := by
  obtain ⟨B, F, G, d, G', R, e, k⟩ := h
  obtain ⟨⟨x, G1⟩, e1, e⟩ := Option.bind_eq_some_iff.mp e
  obtain ⟨⟨y, G2⟩, e2, e⟩ := Option.bind_eq_some_iff.mp e
  obtain ⟨dx, e3, e⟩ := Option.bind_eq_some_iff.mp e
  obtain ⟨dy, e4, e⟩ := Option.bind_eq_some_iff.mp e
  obtain ⟨z, e5, e⟩ := Option.bind_eq_some_iff.mp e
  cases e
  refine ⟨B, F, G, x, G1, R, e1, fun v F1 H1 R1 s1 q1 => ⟨B, F1, G1, y, _, R1, e2, fun w F2 H2 R2 s2 q2 => ?_⟩⟩
  exact hp F2 H2 v w dx dy _ Q R2.same (R2.get (q1.mono s2) e3) (R2.get q2 e4) e5 fun u F3 H3 g q => k u F3 H3 (R2.grow g) ((s1.trans s2).trans g.f) q
theorem je_op {op : Operator} {r : R2} {g : PyData → PyData → Option PyData} (ho : OpR X (binaryOp op) r) (hp : Pr2 X.K r g) (ha : JP X a fa) (hb : JP X b fb) : JE X (.BinOp a op b pos) (dOp g fa fb) := pe_im (pe_op ho ha hb) fun _ _ _ h => op2 hp h
theorem je_cmp {op : CmpOp} {r : R2} {g : PyData → PyData → Option PyData} (ho : OpR X (compareOp op) r) (hp : Pr2 X.K r g) (ha : JP X a fa) (hb : JP X b fb) (hm : behindInMarks op b = false := by first | exact nomark _ | rfl) : JE X (.Compare a [op] [b] pos) (dOp g fa fb) :=
  pe_im (pe_cmpR ho ha hb hm) fun _ _ _ h => op2 hp h
def asB : PyData → Option Bool
  | .bool b => some b
  | _ => none
/-- a function whose datum is a bool, as a test -/
def dB (f : En → Option (PyData × En)) : En → Option (Bool × En) := fun G => (f G).bind fun r => (asB r.1).bind fun b => some (b, r.2)
theorem dB_some {f : En → Option (PyData × En)} {G G' : En} {b : Bool} (h : dB f G = some (b, G')) : f G = some (.bool b, G') := by
  obtain ⟨⟨d, G1⟩, e1, e⟩ := Option.bind_eq_some_iff.mp h
  obtain ⟨c, e2, e⟩ := Option.bind_eq_some_iff.mp e
  cases e
  cases d <;> first | cases e2; exact e1 | cases e2
theorem tT_dB {K : PySem.W.Frag} {f : En → Option (PyData × En)} {σ : L2.St} {H : Hp} {Q : Bool → Hp → Prop} (h : tT K (dB f) σ H Q) : tJ K f σ H fun x H' => ∃ k, x = .bl k ∧ Q k H' := by
  obtain ⟨B, F, G, b, G', R, e, k⟩ := h
  refine ⟨B, F, G, _, G', R, dB_some e, fun v F' H' R' s q => ?_⟩
  cases q
  exact ⟨b, rfl, k F' H' R' s⟩
theorem jt_cmp {op : CmpOp} {r : R2} {g : PyData → PyData → Option PyData} (ho : OpR X (compareOp op) r) (hp : Pr2 X.K r g) (ha : JP X a fa) (hb : JP X b fb) (hm : behindInMarks op b = false := by first | exact nomark _ | rfl) : JT X (.Compare a [op] [b] pos) (dB (dOp g fa fb)) :=
  pt_im (pt_cmpR ho ha hb hm) fun _ _ _ h => op2 hp (tT_dB h)
/-- a < b < c -/
def dChain (g g' : PyData → PyData → Option PyData) (fa fb fc : En → Option (Ag × En)) : En → Option (PyData × En) := fun G =>
  (fa G).bind fun r => (fb r.2).bind fun q => (r.1.get q.2).bind fun x => (q.1.get q.2).bind fun y => (g x y).bind fun z => (asB z).bind fun k =>
    if k = true then (fc q.2).bind fun t => (q.1.get t.2).bind fun y' => (t.1.get t.2).bind fun w => (g' y' w).bind fun z' => some (z', t.2) else some (.bool false, q.2)
theorem chain3 {K : PySem.W.Frag} {r r' : R2} {g g' : PyData → PyData → Option PyData} {fc : En → Option (Ag × En)} (hp : Pr2 K r g) (hp' : Pr2 K r' g') {σ : L2.St} {H : Hp} {Q : VK} (h : tJ K (dChain g g' fa fb fc) σ H Q) :
    tChain r r' (tP K fa) (tP K fb) (tP K fc) σ H Q := by
  obtain ⟨B, F, G, d, G', R, e, k⟩ := h
  obtain ⟨⟨x, G1⟩, e1, e⟩ := Option.bind_eq_some_iff.mp e
  obtain ⟨⟨y, G2⟩, e2, e⟩ := Option.bind_eq_some_iff.mp e
  obtain ⟨dx, e3, e⟩ := Option.bind_eq_some_iff.mp e
  obtain ⟨dy, e4, e⟩ := Option.bind_eq_some_iff.mp e
  obtain ⟨z, e5, e⟩ := Option.bind_eq_some_iff.mp e
  obtain ⟨kb, e6, ek⟩ := Option.bind_eq_some_iff.mp e
  have ez : z = .bool kb := by cases z <;> first | cases e6; rfl | cases e6
  subst ez
  clear e
  refine ⟨B, F, G, x, G1, R, e1, fun v F1 H1 R1 s1 q1 => ⟨B, F1, G1, y, _, R1, e2, fun w F2 H2 R2 s2 q2 => ?_⟩⟩
  refine hp F2 H2 v w dx dy _ _ R2.same (R2.get (q1.mono s2) e3) (R2.get q2 e4) e5 fun u F3 H3 gr q => ?_
  cases q
  refine ⟨kb, rfl, ?_⟩
  have R3 := R2.grow gr
  cases kb with
  | false =>
    rw [if_neg (by decide)] at ek ⊢
    cases ek
    exact k _ F3 H3 R3 ((s1.trans s2).trans gr.f) (.bl false)
  | true =>
    rw [if_pos rfl] at ek ⊢
    obtain ⟨⟨t, G3⟩, e7, e⟩ := Option.bind_eq_some_iff.mp ek
    obtain ⟨dy', e8, e⟩ := Option.bind_eq_some_iff.mp e
    obtain ⟨dw, e9, e⟩ := Option.bind_eq_some_iff.mp e
    obtain ⟨z', e10, e⟩ := Option.bind_eq_some_iff.mp e
    cases e
    refine ⟨B, F3, _, t, _, R3, e7, fun w' F4 H4 R4 s4 q4 => ?_⟩
    exact hp' F4 H4 w w' dy' dw _ Q R4.same (R4.get ((q2.mono gr.f).mono s4) e8) (R4.get q4 e9) e10 fun u' F5 H5 g5 q5 => k u' F5 H5 (R4.grow g5) ((((s1.trans s2).trans gr.f).trans s4).trans g5.f) q5
theorem je_chain {op op' : CmpOp} {r r' : R2} {g g' : PyData → PyData → Option PyData} {fc : En → Option (Ag × En)} (ho : OpR X (compareOp op) r) (hp : Pr2 X.K r g) (ho' : OpR X (compareOp op') r') (hp' : Pr2 X.K r' g') (ha : JP X a fa) (hb : JP X b fb) (hc : JP X c fc)
    (hm : lastMarks [op, op'] [b, c] = false := by with_unfolding_all rfl) : JE X (.Compare a [op, op'] [b, c] pos) (dChain g g' fa fb fc) := pe_im (pe_chain ho ho' ha hb hc hm) fun _ _ _ h => chain3 hp hp' h
theorem jt_chain {op op' : CmpOp} {r r' : R2} {g g' : PyData → PyData → Option PyData} {fc : En → Option (Ag × En)} (ho : OpR X (compareOp op) r) (hp : Pr2 X.K r g) (ho' : OpR X (compareOp op') r') (hp' : Pr2 X.K r' g') (ha : JP X a fa) (hb : JP X b fb) (hc : JP X c fc)
    (hm : lastMarks [op, op'] [b, c] = false := by with_unfolding_all rfl) : JT X (.Compare a [op, op'] [b, c] pos) (dB (dChain g g' fa fb fc)) := pt_im (pt_chain ho ho' ha hb hc hm) fun _ _ _ h => chain3 hp hp' (tT_dB h)
def dUn (g : PyData → Option PyData) (fa : En → Option (Ag × En)) : En → Option (PyData × En) := fun G => (fa G).bind fun r => (r.1.get r.2).bind fun x => (g x).bind fun z => some (z, r.2)
theorem op1 {K : PySem.W.Frag} {r : V → Hp → VK → Prop} {g : PyData → Option PyData} (hp : Pr1 K r g) {σ : L2.St} {H : Hp} {Q : VK} (h : tJ K (dUn g fa) σ H Q) : tUn r (tP K fa) σ H Q := by
  obtain ⟨B, F, G, d, G', R, e, k⟩ := h
  obtain ⟨⟨x, G1⟩, e1, e⟩ := Option.bind_eq_some_iff.mp e
  obtain ⟨dx, e3, e⟩ := Option.bind_eq_some_iff.mp e
  obtain ⟨z, e5, e⟩ := Option.bind_eq_some_iff.mp e
  cases e
  refine ⟨B, F, G, x, _, R, e1, fun v F1 H1 R1 s1 q1 => ?_⟩
  exact hp F1 H1 v dx _ Q R1.same (R1.get q1 e3) e5 fun u F3 H3 g q => k u F3 H3 (R1.grow g) (s1.trans g.f) q
theorem je_un {op : UnaryOp} {r : V → Hp → VK → Prop} {g : PyData → Option PyData} (ho : UnR X (unaryOp op) r) (hp : Pr1 X.K r g) (ha : JP X a fa) : JE X (.UnaryOp op a pos) (dUn g fa) := pe_im (pe_un ho ha) fun _ _ _ h => op1 hp h
/-- a built-in function called -/
def dFn (g : List PyData → Option PyData) (fs : En → Option (List Ag × En)) : En → Option (PyData × En) := fun G => (fs G).bind fun r => (getAll r.2 r.1).bind fun xs => (g xs).bind fun z => some (z, r.2)
theorem opN {K : PySem.W.Frag} {r : List V → Hp → VK → Prop} {g : List PyData → Option PyData} (hp : Pr K r g) {σ : L2.St} {H : Hp} {Q : VK} (h : tJ K (dFn g fs) σ H Q) : tCB r (tPs K fs) σ H Q := by
  obtain ⟨B, F, G, d, G', R, e, k⟩ := h
  obtain ⟨⟨x, G1⟩, e1, e⟩ := Option.bind_eq_some_iff.mp e
  obtain ⟨dx, e3, e⟩ := Option.bind_eq_some_iff.mp e
  obtain ⟨z, e5, e⟩ := Option.bind_eq_some_iff.mp e
  cases e
  refine ⟨B, F, G, x, _, R, e1, fun vs F1 H1 R1 s1 q1 => ?_⟩
  exact hp F1 H1 vs dx _ Q R1.same (R1.getAll q1 e3) e5 fun u F3 H3 g q => k u F3 H3 (R1.grow g) (s1.trans g.f) q
theorem je_fn {r : List V → Hp → VK → Prop} {g : List PyData → Option PyData} (hp : Pr X.K r g) (h : PE X e (tCB r (tPs X.K fs))) : JE X e (dFn g fs) := pe_im h fun _ _ _ h => opN hp h
/-- .. that makes a new list -/
def dFnN (g : List PyData → Option (List PyData)) (fs : En → Option (List Ag × En)) : En → Option (List PyData × En) := fun G => (fs G).bind fun r => (getAll r.2 r.1).bind fun xs => (g xs).bind fun z => some (z, r.2)
theorem jn_fn {r : List V → Hp → VK → Prop} {g : List PyData → Option (List PyData)} (hp : PrN X.K r g) (h : PE X e (tCB r (tPs X.K fs))) : JN X e (dFnN g fs) := pe_im h fun σ H Q h => by
  obtain ⟨B, F, G, d, G', R, e, k⟩ := h
  obtain ⟨⟨x, G1⟩, e1, e⟩ := Option.bind_eq_some_iff.mp e
  obtain ⟨dx, e3, e⟩ := Option.bind_eq_some_iff.mp e
  obtain ⟨z, e5, e⟩ := Option.bind_eq_some_iff.mp e
  cases e
  refine ⟨B, F, G, x, _, R, e1, fun vs F1 H1 R1 s1 q1 => ?_⟩
  refine hp F1 H1 vs dx _ Q R1.same (R1.getAll q1 e3) e5 fun p ws n q => ?_
  exact k p ws F1 _ (R1.lay n) s1 (R1.same.free n) upd_same q (R1.newFree n) (R1.newOwn n)
def dOpN (g : PyData → PyData → Option (List PyData)) (fa fb : En → Option (Ag × En)) : En → Option (List PyData × En) := fun G =>
  (fa G).bind fun r => (fb r.2).bind fun q => (r.1.get q.2).bind fun x => (q.1.get q.2).bind fun y => (g x y).bind fun z => some (z, q.2)
theorem jn_op {op : Operator} {r : R2} {g : PyData → PyData → Option (List PyData)} (ho : OpR X (binaryOp op) r) (hp : PrN2 X.K r g) (ha : JP X a fa) (hb : JP X b fb) : JN X (.BinOp a op b pos) (dOpN g fa fb) := pe_im (pe_op ho ha hb) fun σ H Q h => by
  obtain ⟨B, F, G, d, G', R, e, k⟩ := h
  obtain ⟨⟨x, G1⟩, e1, e⟩ := Option.bind_eq_some_iff.mp e
  obtain ⟨⟨y, G2⟩, e2, e⟩ := Option.bind_eq_some_iff.mp e
  obtain ⟨dx, e3, e⟩ := Option.bind_eq_some_iff.mp e
  obtain ⟨dy, e4, e⟩ := Option.bind_eq_some_iff.mp e
  obtain ⟨z, e5, e⟩ := Option.bind_eq_some_iff.mp e
  cases e
  refine ⟨B, F, G, x, G1, R, e1, fun v F1 H1 R1 s1 q1 => ⟨B, F1, G1, y, _, R1, e2, fun w F2 H2 R2 s2 q2 => ?_⟩⟩
  refine hp F2 H2 v w dx dy _ Q R2.same (R2.get (q1.mono s2) e3) (R2.get q2 e4) e5 fun p ws n q => ?_
  exact k p ws F2 _ (R2.lay n) (s1.trans s2) (R2.same.free n) upd_same q (R2.newFree n) (R2.newOwn n)
/-! subscripts -/
theorem je_ix {r : R2} {g : PyData → PyData → Option PyData} (hr : IxR X r) (hp : Pr2 X.K r g) (ha : JP X a fa) (hb : JP X b fb) (hs : PlainIx b := by exact fun _ _ => rfl) : JE X (.Subscript a b pos) (dOp g fa fb) := pe_im (pe_ix hr ha hb hs) fun _ _ _ h => op2 hp h
def SlOpt := Option (En → Option (PyData × En))
def dPart : Option (En → Option (PyData × En)) → En → Option (Option Int × En)
  | none => fun G => some (none, G)
  | some f => fun G => (f G).bind fun r => match r.1 with
    | .int i => some (some i, r.2)
    | _ => none
def tO (K : PySem.W.Frag) (f : En → Option (Option Int × En)) : TO := fun σ H Q => ∃ (B : Bs) (F : Hp) (G : En) (b : Option Int) (G' : En), Rp K B G σ F H ∧ f G = some (b, G') ∧
  ∀ F' H', Rp K B G' σ F' H' → Same F F' → Q b H'
abbrev JO (X : Cx) (e : Option Expr) (f : En → Option (Option Int × En)) : Prop := PO X e (tO X.K f)
theorem po_im {o : Option Expr} {t t' : TO} (h : PO X o t) (i : ∀ σ H Q, t' σ H Q → t σ H Q) : PO X o t' := ⟨fun pins s σ H Q I w => h.run pins s σ H Q I (i _ _ _ w)⟩
theorem jo_none : JO X none (dPart none) := po_im po_none fun σ H Q ⟨B, F, G, b, G', R, e, k⟩ => by
  cases e
  exact k F H R (.refl F)
theorem jo_some {f : En → Option (PyData × En)} (h : JE X e f) : JO X (some e) (dPart (some f)) := po_im (po_some h) fun σ H Q ⟨B, F, G, b, G', R, e, k⟩ => by
  obtain ⟨⟨d, G1⟩, e1, e⟩ := Option.bind_eq_some_iff.mp e
  dsimp only at e
  split at e
  · cases e
    refine ⟨B, F, G, _, _, R, e1, fun v F1 H1 R1 s1 q => ?_⟩
    cases q
    exact ⟨_, rfl, k F1 H1 R1 s1⟩
  · cases e
def PrS (K : PySem.W.Frag) (r : V → Option Int → Option Int → Hp → VK → Prop) (g : PyData → Option Int → Option Int → Option PyData) : Prop :=
  ∀ (F H : Hp) (v : V) (lo hi : Option Int) (x z : PyData) (Q : VK), Same F H → Pk K F H v x → g x lo hi = some z → (∀ u F' H', Grow F H F' H' → Dq K F' u z → Q u H') → r v lo hi H Q
def dSl (g : PyData → Option Int → Option Int → Option PyData) (fa : En → Option (Ag × En)) (fl fu : En → Option (Option Int × En)) : En → Option (PyData × En) := fun G =>
  (fa G).bind fun r => (fl r.2).bind fun l => (fu l.2).bind fun u => (r.1.get u.2).bind fun x => (g x l.1 u.1).bind fun z => some (z, u.2)
theorem je_sl {r : V → Option Int → Option Int → Hp → VK → Prop} {g : PyData → Option Int → Option Int → Option PyData} {lo hi : Option Expr} {fl fu : En → Option (Option Int × En)} (hr : SlR X r) (hp : PrS X.K r g) (ha : JP X a fa) (hl : JO X lo fl) (hu : JO X hi fu) :
    JE X (.Subscript a (.Slice lo hi none p2) pos) (dSl g fa fl fu) := pe_im (pe_slice hr ha hl hu) fun σ H Q h => by
  obtain ⟨B, F, G, d, G', R, e, k⟩ := h
  obtain ⟨⟨x, G1⟩, e1, e⟩ := Option.bind_eq_some_iff.mp e
  obtain ⟨⟨l, G2⟩, e2, e⟩ := Option.bind_eq_some_iff.mp e
  obtain ⟨⟨u, G3⟩, e3, e⟩ := Option.bind_eq_some_iff.mp e
  obtain ⟨dx, e4, e⟩ := Option.bind_eq_some_iff.mp e
  obtain ⟨z, e5, e⟩ := Option.bind_eq_some_iff.mp e
  cases e
  refine ⟨B, F, G, x, G1, R, e1, fun v F1 H1 R1 s1 q1 => ⟨B, F1, G1, l, _, R1, e2, fun F2 H2 R2 s2 => ⟨B, F2, G2, u, _, R2, e3, fun F3 H3 R3 s3 => ?_⟩⟩⟩
  exact hp F3 H3 v l u dx _ Q R3.same (R3.get ((q1.mono s2).mono s3) e4) e5 fun w F4 H4 g q => k w F4 H4 (R3.grow g) (((s1.trans s2).trans s3).trans g.f) q
end
end Jd
/-! Jd: operators and built-in functions as functions on data. -/
namespace Jd
open PySem PySem.Spec PyProof.Rows L2
/-! ### operators -/
def big : Nat := 1000000
def rAddAll (K : PySem.W.Frag) : R2 := fun x y H Q => rI0 (fun i j => .int (i + j)) x y H Q ∨ ((∃ i j, x = .str i ∧ y = .str j ∧ i.length + j.length ≤ sizeLine ∧ Q (.str (i ++ j)) H) ∨ (rCatA K x y H Q ∨
  ∃ l b xs zs, x = .ref l ∧ y = .ref b ∧ Ls K H l xs ∧ Ls K H b zs ∧ xs.length + zs.length ≤ sizeLine ∧ ∀ p, H p = none → Q (.ref p) (upd H p (.lst (xs ++ zs)))))
section
variable {X : Cx}
theorem rd_at {pins : List (Addr × Obj)} {σ : L2.St} {H : Hp} {s : Shared} {l : Addr} {xs : List V} (I : Inv X pins σ H s) (h : Ls X.K H l xs) :
    xs.length ≤ sizeLine ∧ ∃ (us : List Value) (n : Nat), Vals xs us ∧ xs.length = us.length ∧ s.heap.get? l = some { cls := .type "list", data := .seq us.toArray n } := by
  rcases h with h | ⟨its, n, e, z, r⟩
  · obtain ⟨z, us, n, r, e⟩ := h.ok I.hok
    exact ⟨z, us, n, r, r.length, e⟩
  · have l := r.length
    have l2 : its.toList.length = its.size := Array.length_toList
    exact ⟨by omega, its.toList, n, r, r.length, by simpa using I.kIn _ _ e⟩
theorem op_catR : OpR X (binaryOp .Add) (fun x y H Q => ∃ l b xs zs, x = .ref l ∧ y = .ref b ∧ Ls X.K H l xs ∧ Ls X.K H b zs ∧ xs.length + zs.length ≤ sizeLine ∧ ∀ p, H p = none → Q (.ref p) (upd H p (.lst (xs ++ zs)))) := by
  intro pins s σ H x y v u Q I rx ry h
  obtain ⟨l, b, xs, zs, rfl, rfl, hl, hb, hz, q⟩ := h
  cases rx
  cases ry
  obtain ⟨_, us, n, r, el, g⟩ := rd_at I hl
  obtain ⟨_, ws, m, r2, el2, g2⟩ := rd_at I hb
  refine PySem.P.add_list g g2 ?_ (by rw [List.size_toArray, List.size_toArray, ← el, ← el2]; exact hz)
  rw [show us.toArray ++ ws.toArray = (us ++ ws).toArray by simp]
  exact ⟨.ref _, _, I.lnew (t' := s.toks) (Vals.append r r2) (by rw [List.length_append]; exact hz), rfl, q _ I.fresh⟩
theorem op_addAll : OpR X (binaryOp .Add) (rAddAll X.K) := OpR.or op_add (OpR.or op_add_str (OpR.or op_catA op_catR))
end
def gAdd : PyData → PyData → Option PyData
  | .int a, .int b => some (.int (a + b))
  | .str a, .str b => if a.length + b.length ≤ big then some (.str (a ++ b)) else none
  | .tuple a, .tuple b => if a.length + b.length ≤ big then some (.tuple (a ++ b)) else none
  | .list a, .list b => if a.length + b.length ≤ big then some (.list (a ++ b)) else none
  | _, _ => none
theorem big_le {n : Nat} (h : n ≤ big) : n ≤ sizeLine := Nat.le_trans h (by rw [sizeLine_eq]; decide)
section
variable {K : PySem.W.Frag}
theorem pr_add : Pr2 K (rAddAll K) gAdd := by
  intro F H v w x y z Q s p1 p2 e k
  unfold gAdd at e
  split at e
  · cases e
    exact .inl ⟨_, _, p1.int, p2.int, k _ _ _ (.refl s) (.int _)⟩
  · split at e
    · rename_i hl
      cases e
      exact .inr (.inl ⟨_, _, p1.str, p2.str, big_le hl, k _ _ _ (.refl s) (.str _)⟩)
    · cases e
  · split at e
    · rename_i a b hl
      cases e
      obtain ⟨p, vs, rfl, h1, q1, d1⟩ := p1.tup s
      obtain ⟨r, ws, rfl, h2, q2, d2⟩ := p2.tup s
      refine .inr (.inr (.inl ⟨p, r, vs, ws, rfl, rfl, h1, h2, ?_, fun z => ?_, fun _ z => ?_, fun _ _ l n => ?_⟩))
      · rw [dp_len q1, dp_len q2]
        exact big_le hl
      · subst z
        cases q1
        exact k _ _ _ (.refl s) d2
      · subst z
        cases q2
        rw [List.append_nil] at k
        exact k _ _ _ (.refl s) d1
      · have g := Grow.upd (o := .tup (vs ++ ws)) s n
        exact k _ _ _ g (.tup (SqT.of upd_same) (dpAll_mono g.f (dp_app q1 q2)))
    · cases e
  · split at e
    · rename_i a b hl
      cases e
      obtain ⟨p, vs, rfl, h1, q1⟩ := p1.lst s
      obtain ⟨r, ws, rfl, h2, q2⟩ := p2.lst s
      refine .inr (.inr (.inr ⟨p, r, vs, ws, rfl, rfl, h1, h2, ?_, fun l n => ?_⟩))
      · rw [dp_len q1, dp_len q2]
        exact big_le hl
      · have g := Grow.upd (o := .lst (vs ++ ws)) s n
        exact k _ _ _ g (.lst (Ls.of upd_same) (dpAll_mono g.f (dp_app q1 q2)))
    · cases e
  · cases e
end
/-- a new list by + -/
def gAddN : PyData → PyData → Option (List PyData)
  | .list a, .list b => if a.length + b.length ≤ big then some (a ++ b) else none
  | _, _ => none
section
variable {K : PySem.W.Frag}
theorem pr_addN : PrN2 K (rAddAll K) gAddN := by
  intro F H v w x y z Q s p1 p2 e k
  unfold gAddN at e
  split at e
  · split at e
    · rename_i a b hl
      cases e
      obtain ⟨p, vs, rfl, h1, q1⟩ := p1.lst s
      obtain ⟨r, ws, rfl, h2, q2⟩ := p2.lst s
      refine .inr (.inr (.inr ⟨p, r, vs, ws, rfl, rfl, h1, h2, ?_, fun l n => k l _ n (dp_app q1 q2)⟩))
      rw [dp_len q1, dp_len q2]
      exact big_le hl
    · cases e
  · cases e
/-- two whole numbers -/
def g2I (f : Int → Int → Option PyData) : PyData → PyData → Option PyData
  | .int a, .int b => f a b
  | _, _ => none
theorem pr_int {C : Int → Int → Prop} {g : Int → Int → V} {f : Int → Int → Option PyData} (h : ∀ a b z, f a b = some z → C a b ∧ ∀ F, Dq K F (g a b) z) : Pr2 K (rI C g) (g2I f) := by
  intro F H v w x y z Q s p1 p2 e k
  unfold g2I at e
  split at e
  · obtain ⟨c, q⟩ := h _ _ _ e
    exact ⟨_, _, p1.int, p2.int, c, k _ _ _ (.refl s) (q F)⟩
  · cases e
theorem pr_int0 {g : Int → Int → V} {f : Int → Int → Option PyData} (h : ∀ a b z, f a b = some z → ∀ F, Dq K F (g a b) z) : Pr2 K (rI0 g) (g2I f) := by
  intro F H v w x y z Q s p1 p2 e k
  unfold g2I at e
  split at e
  · exact ⟨_, _, p1.int, p2.int, k _ _ _ (.refl s) (h _ _ _ e F)⟩
  · cases e
def gSub : PyData → PyData → Option PyData := g2I fun a b => some (.int (a - b))
theorem pr_sub : Pr2 K (rI0 fun i j => .int (i - j)) gSub := pr_int0 fun a b z e F => by cases e; exact .int _
/-- the sizes of two factors -/
def mulOk (a b : Int) : Bool := decide (a.natAbs.log2 + b.natAbs.log2 < 1000000)
def gMulI : PyData → PyData → Option PyData := g2I fun a b => if mulOk a b then some (.int (a * b)) else none
theorem pr_mulI : Pr2 K (rI CMulW fun i j => .int (i * j)) gMulI := pr_int fun a b z e => by
  split at e
  · rename_i h
    cases e
    exact ⟨(of_decide_eq_true h : a.natAbs.log2 + b.natAbs.log2 < 1000000), fun F => .int _⟩
  · cases e
def divOk (b : Int) : Bool := decide (b ≠ 0) && decide (b.natAbs.log2 < 9000)
def gDiv : PyData → PyData → Option PyData := g2I fun a b => if divOk b then some (.int (a.fdiv b)) else none
def CDivX (_ j : Int) : Prop := j ≠ 0 ∧ j.natAbs.log2 < 9000
theorem divOk_x {a b : Int} (h : divOk b = true) : CDivX a b := by
  unfold divOk at h
  rw [Bool.and_eq_true] at h
  exact ⟨of_decide_eq_true h.1, of_decide_eq_true h.2⟩
theorem pr_div : Pr2 K (rI CDivX fun i j => .int (i.fdiv j)) gDiv := pr_int fun a b z e => by
  split at e
  · rename_i h
    cases e
    exact ⟨divOk_x h, fun F => .int _⟩
  · cases e
def gMod : PyData → PyData → Option PyData := g2I fun a b => if b = 0 then none else some (.int (a.fmod b))
theorem pr_mod : Pr2 K (rI (fun _ j => j ≠ 0) fun i j => .int (i.fmod j)) gMod := pr_int fun a b z e => by
  split at e
  · cases e
  · rename_i h
    cases e
    exact ⟨h, fun F => .int _⟩
def gPow : PyData → PyData → Option PyData := g2I fun a b => if 0 ≤ b ∧ b ≤ 1000000 ∧ a.natAbs < 2 ^ 64 then some (.int (a ^ b.toNat)) else none
theorem pr_pow : Pr2 K (rI CPow fun i j => .int (i ^ j.toNat)) gPow := pr_int fun a b z e => by
  split at e
  · rename_i h
    cases e
    exact ⟨h, fun F => .int _⟩
  · cases e
def gLt : PyData → PyData → Option PyData := g2I fun a b => some (.bool (decide (a < b)))
def gLe : PyData → PyData → Option PyData := g2I fun a b => some (.bool (decide (a ≤ b)))
def gGt : PyData → PyData → Option PyData := g2I fun a b => some (.bool (decide (b < a)))
def gGe : PyData → PyData → Option PyData := g2I fun a b => some (.bool (decide (b ≤ a)))
theorem pr_lt : Pr2 K (rI0 fun i j => .bl (decide (i < j))) gLt := pr_int0 fun a b z e F => by cases e; exact .bl _
theorem pr_le : Pr2 K (rI0 fun i j => .bl (decide (i ≤ j))) gLe := pr_int0 fun a b z e F => by cases e; exact .bl _
theorem pr_gt : Pr2 K (rI0 fun i j => .bl (decide (j < i))) gGt := pr_int0 fun a b z e F => by cases e; exact .bl _
theorem pr_ge : Pr2 K (rI0 fun i j => .bl (decide (j ≤ i))) gGe := pr_int0 fun a b z e F => by cases e; exact .bl _
def gNeg : PyData → Option PyData
  | .int a => some (.int (-a))
  | _ => none
theorem pr_neg : Pr1 K (rU fun i => .int (-i)) gNeg := by
  intro F H v x z Q s p e k
  unfold gNeg at e
  split at e
  · cases e
    exact ⟨_, p.int, k _ _ _ (.refl s) (.int _)⟩
  · cases e
/-! equality -/
def gEq : PyData → PyData → Option PyData
  | .str a, .str b => some (.bool (decide (a = b)))
  | x, y => if SeqAt.shaped x && SeqAt.shaped y then some (.bool (PyData.eqv x y)) else none
def gNe : PyData → PyData → Option PyData
  | .str a, .str b => some (.bool (!decide (a = b)))
  | x, y => if SeqAt.shaped x && SeqAt.shaped y then some (.bool (!PyData.eqv x y)) else none
def rEqAll (K : PySem.W.Frag) : R2 := fun x y H Q => rEq x y H Q ∨ rEqD K x y H Q
def rNeAll (K : PySem.W.Frag) : R2 := fun x y H Q => rNe x y H Q ∨ rNeD K x y H Q
theorem op_eqA {X : Cx} (hu : X.A.units + 64 < cLine) : OpR X (compareOp .Eq) (rEqAll X.K) := OpR.or op_eq (op_eqD hu)
theorem op_neA {X : Cx} (hu : X.A.units + 64 < cLine) : OpR X (compareOp .NotEq) (rNeAll X.K) := OpR.or op_ne (op_neD hu)
theorem str_dec {a b : Str} : decide (V.str a = V.str b) = decide (a = b) := by
  rw [Bool.eq_iff_iff]
  simp
theorem pr_eq : Pr2 K (rEqAll K) gEq := by
  intro F H v w x y z Q s p1 p2 e k
  unfold gEq at e
  split at e
  · cases e
    rw [p1.str, p2.str]
    refine .inl ⟨rfl, ?_⟩
    rw [str_dec]
    exact k _ _ _ (.refl s) (.bl _)
  · split at e
    · rename_i h
      rw [Bool.and_eq_true] at h
      cases e
      exact .inr ⟨_, _, dq_dp (p1.dp s), dq_dp (p2.dp s), h.1, h.2, k _ _ _ (.refl s) (.bl _)⟩
    · cases e
theorem pr_ne : Pr2 K (rNeAll K) gNe := by
  intro F H v w x y z Q s p1 p2 e k
  unfold gNe at e
  split at e
  · cases e
    rw [p1.str, p2.str]
    refine .inl ⟨rfl, ?_⟩
    rw [str_dec]
    exact k _ _ _ (.refl s) (.bl _)
  · split at e
    · rename_i h
      rw [Bool.and_eq_true] at h
      cases e
      exact .inr ⟨_, _, dq_dp (p1.dp s), dq_dp (p2.dp s), h.1, h.2, k _ _ _ (.refl s) (.bl _)⟩
    · cases e
/-! is -/
def isNone : PyData → Bool
  | .none => true
  | _ => false
theorem pk_none {F H : Hp} {v : V} {x : PyData} (p : Pk K F H v x) : decide (v = .non) = isNone x := by
  rcases p with p | ⟨_, _, _, rfl, rfl, _⟩
  · cases p <;> rfl
  · rfl
def gIs : PyData → PyData → Option PyData
  | x, .none => some (.bool (isNone x))
  | .bool a, .bool b => some (.bool (decide (a = b)))
  | _, _ => none
def gNotIs : PyData → PyData → Option PyData
  | x, .none => some (.bool (!isNone x))
  | .bool a, .bool b => some (.bool (!decide (a = b)))
  | _, _ => none
def rIsAll : R2 := fun x y H Q => (y = .non ∧ Q (.bl (decide (x = .non))) H) ∨ rIsB x y H Q
def rNotAll : R2 := fun x y H Q => (y = .non ∧ Q (.bl (!decide (x = .non))) H) ∨ rNotB x y H Q
theorem op_isAll {X : Cx} : OpR X (compareOp .Is) rIsAll := OpR.or op_isN op_isBl
theorem op_notAll {X : Cx} : OpR X (compareOp .IsNot) rNotAll := OpR.or op_notN op_notBl
theorem pr_is : Pr2 K rIsAll gIs := by
  intro F H v w x y z Q s p1 p2 e k
  unfold gIs at e
  split at e
  · cases e
    refine .inl ⟨p2.non, ?_⟩
    rw [pk_none p1]
    exact k _ _ _ (.refl s) (.bl _)
  · cases e
    exact .inr ⟨_, _, p1.bl, p2.bl, k _ _ _ (.refl s) (.bl _)⟩
  · cases e
theorem pr_notIs : Pr2 K rNotAll gNotIs := by
  intro F H v w x y z Q s p1 p2 e k
  unfold gNotIs at e
  split at e
  · cases e
    refine .inl ⟨p2.non, ?_⟩
    rw [pk_none p1]
    exact k _ _ _ (.refl s) (.bl _)
  · cases e
    exact .inr ⟨_, _, p1.bl, p2.bl, k _ _ _ (.refl s) (.bl _)⟩
  · cases e
/-! subscripts -/
theorem dp_atI {F : Hp} {vs : List V} {ds : List PyData} (h : DqAll K F vs ds) {i : Int} {d : PyData} (e : atI ds i = some d) : ∃ v, atI vs i = some v ∧ Dq K F v d := by
  unfold atI at e ⊢
  rw [dp_len h]
  obtain ⟨j, e1, e2⟩ := Option.bind_eq_some_iff.mp e
  obtain ⟨v, e3, q⟩ := dp_get h e2
  exact ⟨v, by rw [e1]; exact e3, q⟩
def gIx : PyData → PyData → Option PyData
  | .list ds, .int i => atI ds i
  | .tuple ds, .int i => atI ds i
  | .str z, .int i => if z.length ≤ big then (atI z.cps.toList i).map fun c => .str ⟨#[c]⟩ else none
  | _, _ => none
theorem pr_ix : Pr2 K (rIx K) gIx := by
  intro F H v w x y z Q s p1 p2 e k
  unfold gIx at e
  split at e
  · obtain ⟨a, ws, rfl, h, q⟩ := p1.lst s
    obtain ⟨u, e1, q1⟩ := dp_atI q e
    exact .inl ⟨a, ws, _, u, rfl, p2.int, h.sq, e1, k _ _ _ (.refl s) q1⟩
  · obtain ⟨a, ws, rfl, h, q, _⟩ := p1.tup s
    obtain ⟨u, e1, q1⟩ := dp_atI q e
    exact .inr (.inl ⟨a, ws, _, u, rfl, p2.int, h, e1, k _ _ _ (.refl s) q1⟩)
  · split at e
    · rename_i hl
      obtain ⟨c, e1, e2⟩ := Option.map_eq_some_iff.mp e
      subst e2
      exact .inr (.inr ⟨_, _, c, p1.str, p2.int, big_le hl, e1, k _ _ _ (.refl s) (.str _)⟩)
    · cases e
  · cases e
/-- a cut -/
def cutD (xs : List PyData) (lo hi : Option Int) : List PyData := (xs.drop (HT.sIx xs.length 0 lo)).take (HT.sIx xs.length xs.length hi - HT.sIx xs.length 0 lo)
theorem dp_cut {F : Hp} {vs : List V} {ds : List PyData} (h : DqAll K F vs ds) (lo hi : Option Int) : DqAll K F (cutV vs lo hi) (cutD ds lo hi) := by
  unfold cutV cutD
  rw [dp_len h]
  exact dp_take (dp_drop h _) _
theorem take_self {α : Type} (ds : List α) : List.take ds.length ds = ds := List.take_length
def gSl : PyData → Option Int → Option Int → Option PyData
  | .list ds, lo, hi => some (.list (cutD ds lo hi))
  | .tuple ds, lo, hi => some (.tuple (cutD ds lo hi))
  | _, _, _ => none
def rSlAll (K : PySem.W.Frag) : V → Option Int → Option Int → Hp → VK → Prop := fun x lo hi H Q => rSlL K x lo hi H Q ∨ rSlA K x lo hi H Q
theorem sl_all {X : Cx} : SlR X (rSlAll X.K) := SlR.or sl_list sl_tupA
theorem pr_sl : PrS K (rSlAll K) gSl := by
  intro F H v lo hi x z Q s p e k
  unfold gSl at e
  split at e
  · cases e
    obtain ⟨a, ws, rfl, h, q⟩ := p.lst s
    refine .inl ⟨a, ws, rfl, h.sq, fun l n => ?_⟩
    have g := Grow.upd (o := .lst (cutV ws lo hi)) s n
    exact k _ _ _ g (.lst (Ls.of upd_same) (dpAll_mono g.f (dp_cut q lo hi)))
  · cases e
    obtain ⟨a, ws, rfl, h, q, d1⟩ := p.tup s
    refine .inr ⟨a, ws, rfl, h, fun ⟨h1, h2⟩ => ?_, fun _ l n => ?_⟩
    · refine k _ _ _ (.refl s) ?_
      unfold cutD
      rw [← dp_len q, h1, h2, Nat.sub_zero, List.drop_zero, dp_len q, take_self]
      exact d1
    · have g := Grow.upd (o := .tup (cutV ws lo hi)) s n
      exact k _ _ _ g (.tup (SqT.of upd_same) (dpAll_mono g.f (dp_cut q lo hi)))
  · cases e
/-! ### built-in functions -/
theorem pk1 {F H : Hp} {vs : List V} {d : PyData} (h : PkAll K F H vs [d]) : ∃ v, vs = [v] ∧ Pk K F H v d := by
  cases h with
  | cons h1 h2 => cases h2; exact ⟨_, rfl, h1⟩
theorem pk2 {F H : Hp} {vs : List V} {d e : PyData} (h : PkAll K F H vs [d, e]) : ∃ v w, vs = [v, w] ∧ Pk K F H v d ∧ Pk K F H w e := by
  cases h with
  | cons h1 h2 =>
    cases h2 with
    | cons h2 h3 => cases h3; exact ⟨_, _, rfl, h1, h2⟩
def gLen : List PyData → Option PyData
  | [.list ds] => some (.int ds.length)
  | [.tuple ds] => some (.int ds.length)
  | [.str z] => if z.length ≤ big then some (.int z.length) else none
  | _ => none
def rLenAll (K : PySem.W.Frag) : List V → Hp → VK → Prop := fun xs H Q => (∃ p ys, xs = [.ref p] ∧ (SqL K H p ys ∨ SqT K H p ys) ∧ Q (.int ys.length) H) ∨ ∃ z, xs = [.str z] ∧ z.length ≤ sizeLine ∧ Q (.int z.length) H
theorem cr_lenAll {X : Cx} : CallR X (.builtin "len") (rLenAll X.K) := CallR.or call_len_seq call_len_str
theorem pr_len : Pr K (rLenAll K) gLen := by
  intro F H vs ds z Q s p e k
  unfold gLen at e
  split at e
  · cases e
    obtain ⟨v, rfl, px⟩ := pk1 p
    obtain ⟨a, ws, rfl, h, q⟩ := px.lst s
    exact .inl ⟨a, ws, rfl, .inl h.sq, k _ _ _ (.refl s) (by rw [dp_len q]; exact .int _)⟩
  · cases e
    obtain ⟨v, rfl, px⟩ := pk1 p
    obtain ⟨a, ws, rfl, h, q, _⟩ := px.tup s
    exact .inl ⟨a, ws, rfl, .inr h, k _ _ _ (.refl s) (by rw [dp_len q]; exact .int _)⟩
  · split at e
    · rename_i hl
      cases e
      obtain ⟨v, rfl, px⟩ := pk1 p
      exact .inr ⟨_, by rw [px.str], big_le hl, k _ _ _ (.refl s) (.int _)⟩
    · cases e
  · cases e
def gAbs : List PyData → Option PyData
  | [.int a] => some (.int (if a < 0 then -a else a))
  | _ => none
theorem pr_abs : Pr K (fun xs H Q => ∃ i, xs = [.int i] ∧ Q (.int (if i < 0 then -i else i)) H) gAbs := by
  intro F H vs ds z Q s p e k
  unfold gAbs at e
  split at e
  · cases e
    obtain ⟨v, rfl, px⟩ := pk1 p
    exact ⟨_, by rw [px.int], k _ _ _ (.refl s) (.int _)⟩
  · cases e
def gMax2 : List PyData → Option PyData
  | [.int a, .int b] => some (.int (if b > a then b else a))
  | _ => none
theorem pr_max2 : Pr K (fun xs H Q => ∃ i j, xs = [.int i, .int j] ∧ Q (.int (if j > i then j else i)) H) gMax2 := by
  intro F H vs ds z Q s p e k
  unfold gMax2 at e
  split at e
  · cases e
    obtain ⟨v, w, rfl, px, p2⟩ := pk2 p
    exact ⟨_, _, by rw [px.int, p2.int], k _ _ _ (.refl s) (.int _)⟩
  · cases e
def gMin2 : List PyData → Option PyData
  | [.int a, .int b] => some (.int (if b < a then b else a))
  | _ => none
theorem pr_min2 : Pr K (fun xs H Q => ∃ i j, xs = [.int i, .int j] ∧ Q (.int (if j < i then j else i)) H) gMin2 := by
  intro F H vs ds z Q s p e k
  unfold gMin2 at e
  split at e
  · cases e
    obtain ⟨v, w, rfl, px, p2⟩ := pk2 p
    exact ⟨_, _, by rw [px.int, p2.int], k _ _ _ (.refl s) (.int _)⟩
  · cases e
/-- int(..) -/
def gInt : List PyData → Option PyData
  | [.int a] => some (.int a)
  | [.bool b] => some (.int (if b then 1 else 0))
  | _ => none
theorem pr_intF : Pr K (fun xs H Q => (∃ i, xs = [.int i] ∧ Q (.int i) H) ∨ ∃ k, xs = [.bl k] ∧ Q (.int (if k then 1 else 0)) H) gInt := by
  intro F H vs ds z Q s p e k
  unfold gInt at e
  split at e
  · cases e
    obtain ⟨v, rfl, px⟩ := pk1 p
    exact .inl ⟨_, by rw [px.int], k _ _ _ (.refl s) (.int _)⟩
  · cases e
    obtain ⟨v, rfl, px⟩ := pk1 p
    exact .inr ⟨_, by rw [px.bl], k _ _ _ (.refl s) (.int _)⟩
  · cases e
def gGcd : List PyData → Option PyData
  | [.int a, .int b] => some (.int (Nat.gcd a.natAbs b.natAbs : Nat))
  | _ => none
theorem pr_gcd : Pr K rGcd gGcd := by
  intro F H vs ds z Q s p e k
  unfold gGcd at e
  split at e
  · cases e
    obtain ⟨v, w, rfl, px, p2⟩ := pk2 p
    exact ⟨_, _, by rw [px.int, p2.int], k _ _ _ (.refl s) (.int _)⟩
  · cases e
/-- divmod by a small divisor -/
def gDivmod : List PyData → Option PyData
  | [.int a, .int b] => if 0 < b ∧ b < 1073741824 then some (.tuple [.int (a / b), .int (a % b)]) else none
  | _ => none
theorem pr_divmod : Pr K (fun xs H Q => ∃ i j, xs = [.int i, .int j] ∧ CDiv i j ∧ ∀ p, H p = none → Q (.ref p) (upd H p (.tup [.int (i / j), .int (i % j)]))) gDivmod := by
  intro F H vs ds z Q s p e k
  unfold gDivmod at e
  split at e
  · split at e
    · rename_i h
      cases e
      obtain ⟨v, w, rfl, px, p2⟩ := pk2 p
      refine ⟨_, _, by rw [px.int, p2.int], h, fun l n => ?_⟩
      exact k _ _ _ (Grow.upd s n) (.tup (SqT.of upd_same) (.cons (.int _) (.cons (.int _) .nil)))
    · cases e
  · cases e
/-! lists of ints, of bools -/
def asInts : List PyData → Option (List Int)
  | [] => some []
  | .int i :: r => (asInts r).map (i :: ·)
  | _ => none
def asBools : List PyData → Option (List Bool)
  | [] => some []
  | .bool i :: r => (asBools r).map (i :: ·)
  | _ => none
theorem asInts_map (ns : List Int) : asInts (ns.map PyData.int) = some ns := by
  induction ns with
  | nil => rfl
  | cons n ns ih => simp [asInts, ih]
theorem asBools_map (ns : List Bool) : asBools (ns.map PyData.bool) = some ns := by
  induction ns with
  | nil => rfl
  | cons n ns ih => simp [asBools, ih]
theorem asInts_eq : ∀ {ds : List PyData} {ns : List Int}, asInts ds = some ns → ds = ns.map PyData.int
  | [], ns, e => by cases e; rfl
  | d :: r, ns, e => by
    cases d <;> first | (unfold asInts at e; cases e; done) | skip
    unfold asInts at e
    obtain ⟨ms, e1, e2⟩ := Option.map_eq_some_iff.mp e
    subst e2
    rw [asInts_eq e1]
    rfl
theorem asBools_eq : ∀ {ds : List PyData} {ns : List Bool}, asBools ds = some ns → ds = ns.map PyData.bool
  | [], ns, e => by cases e; rfl
  | d :: r, ns, e => by
    cases d <;> first | (unfold asBools at e; cases e; done) | skip
    unfold asBools at e
    obtain ⟨ms, e1, e2⟩ := Option.map_eq_some_iff.mp e
    subst e2
    rw [asBools_eq e1]
    rfl
theorem dq_ints {F : Hp} {ns : List Int} {vs : List V} (h : DqAll K F vs (ns.map PyData.int)) : vs = ns.map V.int := by
  induction ns generalizing vs with
  | nil => cases h; rfl
  | cons n ns ih =>
    cases h with
    | cons h1 h2 => cases h1; rw [ih h2]; rfl
theorem ints_dq (F : Hp) (ns : List Int) : DqAll K F (ns.map V.int) (ns.map PyData.int) := by
  induction ns with
  | nil => exact .nil
  | cons n ns ih => exact .cons (.int _) ih
theorem dq_bools {F : Hp} {ns : List Bool} {vs : List V} (h : DqAll K F vs (ns.map PyData.bool)) : vs = ns.map V.bl := by
  induction ns generalizing vs with
  | nil => cases h; rfl
  | cons n ns ih =>
    cases h with
    | cons h1 h2 => cases h1; rw [ih h2]; rfl
def gSum : List PyData → Option PyData
  | [.list ds] => (asInts ds).map fun ns => .int ns.sum
  | _ => none
theorem pr_sum : Pr K (rSum K) gSum := by
  intro F H vs ds z Q s p e k
  unfold gSum at e
  split at e
  · obtain ⟨v, rfl, px⟩ := pk1 p
    obtain ⟨ns, e1, e2⟩ := Option.map_eq_some_iff.mp e
    subst e2
    obtain ⟨a, ws, rfl, h, q⟩ := px.lst s
    rw [asInts_eq e1] at q
    have := dq_ints q
    subst this
    exact ⟨a, ns, rfl, h.sq, k _ _ _ (.refl s) (.int _)⟩
  · cases e
def gAll : List PyData → Option PyData
  | [.list ds] => (asBools ds).map fun bs => .bool (bs.all id)
  | _ => none
theorem pr_all : Pr K (rAll K) gAll := by
  intro F H vs ds z Q s p e k
  unfold gAll at e
  split at e
  · obtain ⟨v, rfl, px⟩ := pk1 p
    obtain ⟨ns, e1, e2⟩ := Option.map_eq_some_iff.mp e
    subst e2
    obtain ⟨a, ws, rfl, h, q⟩ := px.lst s
    rw [asBools_eq e1] at q
    have := dq_bools q
    subst this
    exact ⟨a, ns, rfl, h.sq, k _ _ _ (.refl s) (.bl _)⟩
  · cases e
def gAny : List PyData → Option PyData
  | [.list ds] => (asBools ds).map fun bs => .bool (bs.any id)
  | _ => none
theorem pr_any : Pr K (rAny K) gAny := by
  intro F H vs ds z Q s p e k
  unfold gAny at e
  split at e
  · obtain ⟨v, rfl, px⟩ := pk1 p
    obtain ⟨ns, e1, e2⟩ := Option.map_eq_some_iff.mp e
    subst e2
    obtain ⟨a, ws, rfl, h, q⟩ := px.lst s
    rw [asBools_eq e1] at q
    have := dq_bools q
    subst this
    exact ⟨a, ns, rfl, h.sq, k _ _ _ (.refl s) (.bl _)⟩
  · cases e
/-- max, min of a list -/
def maxI : Int → List Int → Int
  | m, [] => m
  | m, x :: r => maxI (if m < x then x else m) r
def minI : Int → List Int → Int
  | m, [] => m
  | m, x :: r => minI (if x < m then x else m) r
theorem maxI_mem : ∀ (r : List Int) (m : Int), maxI m r = m ∨ maxI m r ∈ r
  | [], m => .inl rfl
  | x :: r, m => by
    unfold maxI
    split
    · rcases maxI_mem r x with h | h
      · exact .inr (by rw [h]; exact List.mem_cons_self)
      · exact .inr (List.mem_cons_of_mem _ h)
    · rcases maxI_mem r m with h | h
      · exact .inl h
      · exact .inr (List.mem_cons_of_mem _ h)
theorem maxI_ge : ∀ (r : List Int) (m : Int), m ≤ maxI m r ∧ ∀ x ∈ r, x ≤ maxI m r
  | [], m => ⟨Int.le_refl _, fun _ h => by cases h⟩
  | x :: r, m => by
    unfold maxI
    split
    · have := maxI_ge r x
      refine ⟨by omega, fun y hy => ?_⟩
      rcases List.mem_cons.mp hy with rfl | hy
      · exact this.1
      · exact this.2 y hy
    · have := maxI_ge r m
      refine ⟨this.1, fun y hy => ?_⟩
      rcases List.mem_cons.mp hy with rfl | hy
      · omega
      · exact this.2 y hy
theorem minI_mem : ∀ (r : List Int) (m : Int), minI m r = m ∨ minI m r ∈ r
  | [], m => .inl rfl
  | x :: r, m => by
    unfold minI
    split
    · rcases minI_mem r x with h | h
      · exact .inr (by rw [h]; exact List.mem_cons_self)
      · exact .inr (List.mem_cons_of_mem _ h)
    · rcases minI_mem r m with h | h
      · exact .inl h
      · exact .inr (List.mem_cons_of_mem _ h)
theorem minI_le : ∀ (r : List Int) (m : Int), minI m r ≤ m ∧ ∀ x ∈ r, minI m r ≤ x
  | [], m => ⟨Int.le_refl _, fun _ h => by cases h⟩
  | x :: r, m => by
    unfold minI
    split
    · have := minI_le r x
      refine ⟨by omega, fun y hy => ?_⟩
      rcases List.mem_cons.mp hy with rfl | hy
      · exact this.1
      · exact this.2 y hy
    · have := minI_le r m
      refine ⟨this.1, fun y hy => ?_⟩
      rcases List.mem_cons.mp hy with rfl | hy
      · omega
      · exact this.2 y hy
def gMax : List PyData → Option PyData
  | [.int a, .int b] => some (.int (if b > a then b else a))
  | [.list ds] => (asInts ds).bind fun ns => match ns with
    | [] => none
    | n :: r => some (.int (maxI n r))
  | _ => none
def rMaxAll (K : PySem.W.Frag) : List V → Hp → VK → Prop := fun xs H Q => (∃ i j, xs = [.int i, .int j] ∧ Q (.int (if j > i then j else i)) H) ∨ rMax K xs H Q
theorem cr_maxAll {X : Cx} (hc : X.calm = true) : CallR X (.builtin "max") (rMaxAll X.K) := CallR.or (call_max2 hc) (cr_max hc)
theorem pr_max : Pr K (rMaxAll K) gMax := by
  intro F H vs ds z Q s p e k
  unfold gMax at e
  split at e
  · cases e
    obtain ⟨v, w, rfl, px, p2⟩ := pk2 p
    exact .inl ⟨_, _, by rw [px.int, p2.int], k _ _ _ (.refl s) (.int _)⟩
  · obtain ⟨v, rfl, px⟩ := pk1 p
    obtain ⟨ns, e1, e2⟩ := Option.bind_eq_some_iff.mp e
    obtain ⟨a, ws, rfl, h, q⟩ := px.lst s
    rw [asInts_eq e1] at q
    have := dq_ints q
    subst this
    cases ns with
    | nil => cases e2
    | cons n r =>
      cases e2
      refine .inr ⟨a, n :: r, rfl, h.sq, by simp, fun m hm hle => ?_⟩
      have hg := maxI_ge r n
      have em : m = maxI n r := by
        apply Int.le_antisymm
        · rcases List.mem_cons.mp hm with rfl | hm
          · exact hg.1
          · exact hg.2 m hm
        · rcases maxI_mem r n with h1 | h1
          · rw [h1]; exact hle n List.mem_cons_self
          · exact hle _ (List.mem_cons_of_mem _ h1)
      rw [em]
      exact k _ _ _ (.refl s) (.int _)
  · cases e
def gMin : List PyData → Option PyData
  | [.int a, .int b] => some (.int (if b < a then b else a))
  | [.list ds] => (asInts ds).bind fun ns => match ns with
    | [] => none
    | n :: r => some (.int (minI n r))
  | _ => none
def rMinAll (K : PySem.W.Frag) : List V → Hp → VK → Prop := fun xs H Q => (∃ i j, xs = [.int i, .int j] ∧ Q (.int (if j < i then j else i)) H) ∨ rMin K xs H Q
theorem cr_minAll {X : Cx} (hc : X.calm = true) : CallR X (.builtin "min") (rMinAll X.K) := CallR.or (call_min2 hc) (cr_min hc)
theorem pr_min : Pr K (rMinAll K) gMin := by
  intro F H vs ds z Q s p e k
  unfold gMin at e
  split at e
  · cases e
    obtain ⟨v, w, rfl, px, p2⟩ := pk2 p
    exact .inl ⟨_, _, by rw [px.int, p2.int], k _ _ _ (.refl s) (.int _)⟩
  · obtain ⟨v, rfl, px⟩ := pk1 p
    obtain ⟨ns, e1, e2⟩ := Option.bind_eq_some_iff.mp e
    obtain ⟨a, ws, rfl, h, q⟩ := px.lst s
    rw [asInts_eq e1] at q
    have := dq_ints q
    subst this
    cases ns with
    | nil => cases e2
    | cons n r =>
      cases e2
      refine .inr ⟨a, n :: r, rfl, h.sq, by simp, fun m hm hle => ?_⟩
      have hg := minI_le r n
      have em : m = minI n r := by
        apply Int.le_antisymm
        · rcases minI_mem r n with h1 | h1
          · rw [h1]; exact hle n List.mem_cons_self
          · exact hle _ (List.mem_cons_of_mem _ h1)
        · rcases List.mem_cons.mp hm with rfl | hm
          · exact hg.1
          · exact hg.2 m hm
      rw [em]
      exact k _ _ _ (.refl s) (.int _)
  · cases e
/-- tuple(..), list(..) -/
def gTuple : List PyData → Option PyData
  | [.list ds] => some (.tuple ds)
  | [.tuple ds] => some (.tuple ds)
  | _ => none
def rTupleOf (K : PySem.W.Frag) : List V → Hp → VK → Prop := fun xs H Q => ∃ p ys, xs = [.ref p] ∧ ((SqL K H p ys ∧ ∀ l, H l = none → Q (.ref l) (upd H l (.tup ys))) ∨ (SqT K H p ys ∧ Q (.ref p) H))
theorem pr_tuple : Pr K (rTupleOf K) gTuple := by
  intro F H vs ds z Q s p e k
  unfold gTuple at e
  split at e
  · cases e
    obtain ⟨v, rfl, px⟩ := pk1 p
    obtain ⟨a, ws, rfl, h, q⟩ := px.lst s
    refine ⟨a, ws, rfl, .inl ⟨h.sq, fun l n => ?_⟩⟩
    have g := Grow.upd (o := .tup ws) s n
    exact k _ _ _ g (.tup (SqT.of upd_same) (dpAll_mono g.f q))
  · cases e
    obtain ⟨v, rfl, px⟩ := pk1 p
    obtain ⟨a, ws, rfl, h, q, d1⟩ := px.tup s
    exact ⟨a, ws, rfl, .inr ⟨h, k _ _ _ (.refl s) d1⟩⟩
  · cases e
def gListN : List PyData → Option (List PyData)
  | [.list ds] => some ds
  | [.tuple ds] => some ds
  | _ => none
def rListOf (K : PySem.W.Frag) : List V → Hp → VK → Prop := fun xs H Q => ∃ p ys, xs = [.ref p] ∧ (SqL K H p ys ∨ SqT K H p ys) ∧ ∀ l, H l = none → Q (.ref l) (upd H l (.lst ys))
theorem pr_listN : PrN K (rListOf K) gListN := by
  intro F H vs ds z Q s p e k
  unfold gListN at e
  split at e
  · cases e
    obtain ⟨v, rfl, px⟩ := pk1 p
    obtain ⟨a, ws, rfl, h, q⟩ := px.lst s
    exact ⟨a, ws, rfl, .inl h.sq, fun l n => k l ws n q⟩
  · cases e
    obtain ⟨v, rfl, px⟩ := pk1 p
    obtain ⟨a, ws, rfl, h, q, d1⟩ := px.tup s
    exact ⟨a, ws, rfl, .inr h, fun l n => k l ws n q⟩
  · cases e
end
section
variable {X : Cx}
theorem op_divX : OpR X (binaryOp .FloorDiv) (rI CDivX fun i j => .int (i.fdiv j)) := opI fun _ _ _ _ _ _ _ hc q => floordiv_int hc.1 q (.inl (PyProof.noPylong_of_log2 hc.2))
end
end Jd
/-! Jd: tests, statements, loops, comprehensions, methods that change a list of one's own. -/
namespace Jd
open PySem PySem.Spec PyProof.Rows L2
/-! ### truth -/
def truth : PyData → Option Bool
  | .none => some false
  | .bool b => some b
  | .int i => some (i != 0)
  | .str z => if z.length ≤ big then some ((z.length : Int) != 0) else none
  | .list xs => some (!xs.isEmpty)
  | .tuple xs => some (!xs.isEmpty)
  | .dict _ => none
theorem dq_empty {K : PySem.W.Frag} {F : Hp} {vs : List V} {ds : List PyData} (h : DqAll K F vs ds) : vs.isEmpty = ds.isEmpty := by
  cases h <;> rfl
theorem pk_truth {K : PySem.W.Frag} {F H : Hp} {v : V} {d : PyData} {b : Bool} (s : Same F H) (p : Pk K F H v d) (e : truth d = some b) : TruV K v H b := by
  unfold truth at e
  split at e
  · cases e; rw [p.non]; rfl
  · cases e; rw [p.bl]; rfl
  · cases e; rw [p.int]; rfl
  · split at e
    · rename_i hl
      cases e
      rw [p.str]
      exact ⟨big_le hl, rfl⟩
    · cases e
  · cases e
    obtain ⟨a, ws, rfl, h, q⟩ := p.lst s
    exact .inl ⟨ws, h.sq, by rw [dq_empty q]⟩
  · cases e
    obtain ⟨a, ws, rfl, h, q, _⟩ := p.tup s
    exact .inr (.inl ⟨ws, h, by rw [dq_empty q]⟩)
  · cases e
def dTr (fa : En → Option (Ag × En)) : En → Option (Bool × En) := fun G => (fa G).bind fun r => (r.1.get r.2).bind fun x => (truth x).bind fun b => some (b, r.2)
def dAndT (fa fb : En → Option (Bool × En)) : En → Option (Bool × En) := fun G => (fa G).bind fun r => if r.1 = true then fb r.2 else some (false, r.2)
def dOrT (fa fb : En → Option (Bool × En)) : En → Option (Bool × En) := fun G => (fa G).bind fun r => if r.1 = true then some (true, r.2) else fb r.2
def dNotT (fa : En → Option (Bool × En)) : En → Option (Bool × En) := fun G => (fa G).bind fun r => some (!r.1, r.2)
def dAnd (fa fb : En → Option (PyData × En)) : En → Option (PyData × En) := fun G => (fa G).bind fun r => (truth r.1).bind fun b => if b = true then fb r.2 else some r
def dOr (fa fb : En → Option (PyData × En)) : En → Option (PyData × En) := fun G => (fa G).bind fun r => (truth r.1).bind fun b => if b = true then some r else fb r.2
def dNot (fa : En → Option (PyData × En)) : En → Option (PyData × En) := fun G => (fa G).bind fun r => (truth r.1).bind fun b => some (.bool (!b), r.2)
def dIf (ft : En → Option (Bool × En)) (fa fb : En → Option (PyData × En)) : En → Option (PyData × En) := fun G => (ft G).bind fun r => if r.1 = true then fa r.2 else fb r.2
section
variable {X : Cx} {e a b c : Expr} {es rest : List Expr} {pos p p2 apos cpos : Pos}
theorem jt_truth {fa : En → Option (Ag × En)} (h : JP X e fa) (he : ∀ whole, isTrue e X.env whole = (do let v ← whole; standAt e.pos; holding [v] (truthy v)) := by intro _; rfl) : JT X e (dTr fa) := pt_im (pt_truth h he) fun σ H Q h => by
  obtain ⟨B, F, G, b, G', R, e, k⟩ := h
  obtain ⟨⟨x, G1⟩, e1, e⟩ := Option.bind_eq_some_iff.mp e
  obtain ⟨dx, e2, e⟩ := Option.bind_eq_some_iff.mp e
  obtain ⟨b', e3, e⟩ := Option.bind_eq_some_iff.mp e
  cases e
  exact ⟨B, F, G, x, _, R, e1, fun v F1 H1 R1 s1 q1 => ⟨_, pk_truth R1.same (R1.get q1 e2) e3, k F1 H1 R1 s1⟩⟩
theorem jw_and1 {f : En → Option (Bool × En)} (h : JT X a f) : JW X (.BoolOp .And [a] pos) f := pw_and1 h
theorem jw_or1 {f : En → Option (Bool × En)} (h : JT X a f) : JW X (.BoolOp .Or [a] pos) f := pw_or1 h
theorem jw_and {f g : En → Option (Bool × En)} (h : JT X a f) (hr : JW X (.BoolOp .And (b :: rest) pos) g) : JW X (.BoolOp .And (a :: b :: rest) pos) (dAndT f g) := pw_im (pw_and h hr) fun σ H Q h => by
  obtain ⟨B, F, G, b, G', R, e, k⟩ := h
  obtain ⟨⟨x, G1⟩, e1, e⟩ := Option.bind_eq_some_iff.mp e
  refine ⟨B, F, G, x, G1, R, e1, fun F1 H1 R1 s1 => ?_⟩
  cases x with
  | true => exact ⟨B, F1, G1, b, G', R1, e, fun F2 H2 R2 s2 => k F2 H2 R2 (s1.trans s2)⟩
  | false =>
    cases e
    exact k F1 H1 R1 s1
theorem jw_or {f g : En → Option (Bool × En)} (h : JT X a f) (hr : JW X (.BoolOp .Or (b :: rest) pos) g) : JW X (.BoolOp .Or (a :: b :: rest) pos) (dOrT f g) := pw_im (pw_or h hr) fun σ H Q h => by
  obtain ⟨B, F, G, b, G', R, e, k⟩ := h
  obtain ⟨⟨x, G1⟩, e1, e⟩ := Option.bind_eq_some_iff.mp e
  refine ⟨B, F, G, x, G1, R, e1, fun F1 H1 R1 s1 => ?_⟩
  cases x with
  | false => exact ⟨B, F1, G1, b, G', R1, e, fun F2 H2 R2 s2 => k F2 H2 R2 (s1.trans s2)⟩
  | true =>
    cases e
    exact k F1 H1 R1 s1
theorem jt_w {f : En → Option (Bool × En)} (h : JW X e f) : JT X e f := h.pt
theorem jt_not {f : En → Option (Bool × En)} (h : JT X a f) : JT X (.UnaryOp .Not a pos) (dNotT f) := pt_im (pt_not h) fun σ H Q h => by
  obtain ⟨B, F, G, b, G', R, e, k⟩ := h
  obtain ⟨⟨x, G1⟩, e1, e⟩ := Option.bind_eq_some_iff.mp e
  cases e
  exact ⟨B, F, G, x, _, R, e1, fun F1 H1 R1 s1 => k F1 H1 R1 s1⟩
theorem je_one {op : BoolOp} {f : En → Option (PyData × En)} (h : JE X a f) : JE X (.BoolOp op [a] pos) f := pe_one h
theorem je_and {f g : En → Option (PyData × En)} (h : JE X a f) (hr : JE X (.BoolOp .And (b :: rest) pos) g) : JE X (.BoolOp .And (a :: b :: rest) pos) (dAnd f g) := pe_im (pe_andT h hr) fun σ H Q h => by
  obtain ⟨B, F, G, d, G', R, e, k⟩ := h
  obtain ⟨⟨x, G1⟩, e1, e⟩ := Option.bind_eq_some_iff.mp e
  obtain ⟨b, e2, e⟩ := Option.bind_eq_some_iff.mp e
  refine ⟨B, F, G, x, G1, R, e1, fun v F1 H1 R1 s1 q1 => ⟨b, pk_truth R1.same (.inl q1) e2, ?_⟩⟩
  cases b with
  | true => exact ⟨B, F1, G1, d, G', R1, e, fun w F2 H2 R2 s2 q2 => k w F2 H2 R2 (s1.trans s2) q2⟩
  | false =>
    cases e
    exact k v F1 H1 R1 s1 q1
theorem je_or {f g : En → Option (PyData × En)} (h : JE X a f) (hr : JE X (.BoolOp .Or (b :: rest) pos) g) : JE X (.BoolOp .Or (a :: b :: rest) pos) (dOr f g) := pe_im (pe_orT h hr) fun σ H Q h => by
  obtain ⟨B, F, G, d, G', R, e, k⟩ := h
  obtain ⟨⟨x, G1⟩, e1, e⟩ := Option.bind_eq_some_iff.mp e
  obtain ⟨b, e2, e⟩ := Option.bind_eq_some_iff.mp e
  refine ⟨B, F, G, x, G1, R, e1, fun v F1 H1 R1 s1 q1 => ⟨b, pk_truth R1.same (.inl q1) e2, ?_⟩⟩
  cases b with
  | false => exact ⟨B, F1, G1, d, G', R1, e, fun w F2 H2 R2 s2 q2 => k w F2 H2 R2 (s1.trans s2) q2⟩
  | true =>
    cases e
    exact k v F1 H1 R1 s1 q1
theorem je_not {f : En → Option (PyData × En)} (h : JE X a f) : JE X (.UnaryOp .Not a pos) (dNot f) := pe_im (pe_notT h) fun σ H Q h => by
  obtain ⟨B, F, G, d, G', R, e, k⟩ := h
  obtain ⟨⟨x, G1⟩, e1, e⟩ := Option.bind_eq_some_iff.mp e
  obtain ⟨b, e2, e⟩ := Option.bind_eq_some_iff.mp e
  cases e
  exact ⟨B, F, G, x, _, R, e1, fun v F1 H1 R1 s1 q1 => ⟨b, pk_truth R1.same (.inl q1) e2, k _ F1 H1 R1 s1 (.bl _)⟩⟩
theorem je_if {ft : En → Option (Bool × En)} {f g : En → Option (PyData × En)} (ht : JT X c ft) (h : JE X a f) (hr : JE X b g) : JE X (.IfExp c a b pos) (dIf ft f g) := pe_im (pe_ifExp ht h hr) fun σ H Q h => by
  obtain ⟨B, F, G, d, G', R, e, k⟩ := h
  obtain ⟨⟨x, G1⟩, e1, e⟩ := Option.bind_eq_some_iff.mp e
  refine ⟨B, F, G, x, G1, R, e1, fun F1 H1 R1 s1 => ?_⟩
  cases x with
  | true => exact ⟨B, F1, G1, d, G', R1, e, fun w F2 H2 R2 s2 q2 => k w F2 H2 R2 (s1.trans s2) q2⟩
  | false => exact ⟨B, F1, G1, d, G', R1, e, fun w F2 H2 R2 s2 q2 => k w F2 H2 R2 (s1.trans s2) q2⟩
end

/-! ### statements -/
inductive Rv where
  | dat (d : PyData)
  | new (ds : List PyData)
inductive Fl where
  | nx
  | ret (r : Rv)
  | brk
  | cont
/-- what is handed back: a datum, or a new list that nobody else holds -/
def RvOk (K : PySem.W.Frag) (B : Bs) (F H : Hp) (v : V) : Rv → Prop
  | .dat d => Dq K F v d
  | .new ds => ∃ a ws, v = .ref a ∧ (B.h0 a = none ∨ B.io a) ∧ F a = none ∧ H a = some (.lst ws) ∧ DqAll K F ws ds
def Fin (K : PySem.W.Frag) (B : Bs) (F : Hp) (D : Ends) (fl : Fl) (G' : En) : Prop := match fl with
  | .nx => ∀ σ' F' H', Rp K B G' σ' F' H' → Same F F' → D.nx σ' H'
  | .brk => ∀ σ' F' H', Rp K B G' σ' F' H' → Same F F' → D.bk σ' H'
  | .cont => ∀ σ' F' H', Rp K B G' σ' F' H' → Same F F' → D.ct σ' H'
  | .ret r => ∀ v σ' F' H', Rp K B G' σ' F' H' → Same F F' → RvOk K B F' H' v r → (∀ a, v = .ref a → (∃ ds, r = .new ds) → ∀ j, ¬ Owns G' σ' j a) → D.rt v H'
theorem Fin.mono {K : PySem.W.Frag} {B : Bs} {F F1 : Hp} {D : Ends} {fl : Fl} {G' : En} (s : Same F F1) (h : Fin K B F D fl G') : Fin K B F1 D fl G' := by
  cases fl with
  | nx => exact fun σ' F' H' R t => h σ' F' H' R (s.trans t)
  | brk => exact fun σ' F' H' R t => h σ' F' H' R (s.trans t)
  | cont => exact fun σ' F' H' R t => h σ' F' H' R (s.trans t)
  | ret r => exact fun v σ' F' H' R t => h v σ' F' H' R (s.trans t)
def tS (K : PySem.W.Frag) (f : En → Option (Fl × En)) : TS := fun D σ H => ∃ (B : Bs) (F : Hp) (G : En) (fl : Fl) (G' : En), Rp K B G σ F H ∧ f G = some (fl, G') ∧ Fin K B F D fl G'
abbrev JS (X : Cx) (s : Stmt) (f : En → Option (Fl × En)) : Prop := PS X s (tS X.K f)
abbrev JSs (X : Cx) (s : List Stmt) (f : En → Option (Fl × En)) : Prop := PSs X s (tS X.K f)
def dNx : En → Option (Fl × En) := fun G => some (.nx, G)
def dBrk : En → Option (Fl × En) := fun G => some (.brk, G)
def dCont : En → Option (Fl × En) := fun G => some (.cont, G)
def dSeq (f g : En → Option (Fl × En)) : En → Option (Fl × En) := fun G => (f G).bind fun r => match r.1 with
  | .nx => g r.2
  | fl => some (fl, r.2)
def dDrop (f : En → Option (PyData × En)) : En → Option (Fl × En) := fun G => (f G).bind fun r => some (.nx, r.2)
def dRet (f : En → Option (PyData × En)) : En → Option (Fl × En) := fun G => (f G).bind fun r => some (.ret (.dat r.1), r.2)
def dRetN (f : En → Option (List PyData × En)) : En → Option (Fl × En) := fun G => (f G).bind fun r => some (.ret (.new r.1), r.2)
def dRet0 : En → Option (Fl × En) := fun G => some (.ret (.dat .none), G)
/-- return x, where x owns its list: the list is handed out -/
def dRetV (i : Nat) : En → Option (Fl × En) := fun G => match G[i]? with
  | some (.own false ds) => some (.ret (.new ds), G.set i .un)
  | some (.dat d) => some (.ret (.dat d), G)
  | _ => none
def dIfS (ft : En → Option (Bool × En)) (f g : En → Option (Fl × En)) : En → Option (Fl × En) := fun G => (ft G).bind fun r => if r.1 = true then f r.2 else g r.2
def dSet (i : Nat) (f : En → Option (PyData × En)) : En → Option (Fl × En) := fun G => (f G).bind fun r => some (.nx, r.2.set i (.dat r.1))
def dSetN (i : Nat) (f : En → Option (List PyData × En)) : En → Option (Fl × En) := fun G => (f G).bind fun r => some (.nx, r.2.set i (.own false r.1))
section
variable {X : Cx} {e a b c : Expr} {es rest : List Expr} {st : Stmt} {sts : List Stmt} {pos p p2 apos cpos : Pos}
theorem ps_im {t t' : TS} (h : PS X st t) (i : ∀ D σ H, t' D σ H → t D σ H) : PS X st t' := ⟨fun pins s σ H D I w => h.run pins s σ H D I (i _ _ _ w)⟩
theorem pss_im {t t' : TS} (h : PSs X sts t) (i : ∀ D σ H, t' D σ H → t D σ H) : PSs X sts t' := ⟨fun pins s σ H D I w => h.run pins s σ H D I (i _ _ _ w)⟩
theorem jss_nil : JSs X [] dNx := pss_im pss_nil fun D σ H ⟨B, F, G, fl, G', R, e, k⟩ => by
  cases e
  exact k σ F H R (.refl F)
theorem jss_cons {f g : En → Option (Fl × En)} (h : JS X st f) (hr : JSs X sts g) : JSs X (st :: sts) (dSeq f g) := pss_im (pss_cons h hr) fun D σ H ⟨B, F, G, fl, G', R, e, k⟩ => by
  obtain ⟨⟨fl1, G1⟩, e1, e⟩ := Option.bind_eq_some_iff.mp e
  refine ⟨B, F, G, fl1, G1, R, e1, ?_⟩
  cases fl1 with
  | nx => exact fun σ1 F1 H1 R1 s1 => ⟨B, F1, G1, fl, G', R1, e, k.mono s1⟩
  | ret r => cases e; exact k
  | brk => cases e; exact k
  | cont => cases e; exact k
theorem js_pass : JS X (.Pass pos) dNx := ps_im ps_pass fun D σ H ⟨B, F, G, fl, G', R, e, k⟩ => by
  cases e
  exact k σ F H R (.refl F)
theorem js_break : JS X (.Break pos) dBrk := ps_im ps_break fun D σ H ⟨B, F, G, fl, G', R, e, k⟩ => by
  cases e
  exact k σ F H R (.refl F)
theorem js_cont : JS X (.Continue pos) dCont := ps_im ps_continue fun D σ H ⟨B, F, G, fl, G', R, e, k⟩ => by
  cases e
  exact k σ F H R (.refl F)
theorem js_expr {f : En → Option (PyData × En)} (h : JE X e f) (hs : swapsWith e none pos.line X.env = pure false := by rfl) : JS X (.Expr e pos) (dDrop f) := ps_im (ps_expr h hs) fun D σ H ⟨B, F, G, fl, G', R, e, k⟩ => by
  obtain ⟨⟨x, G1⟩, e1, e⟩ := Option.bind_eq_some_iff.mp e
  cases e
  exact ⟨B, F, G, x, _, R, e1, fun v F1 H1 R1 s1 q1 => k σ F1 H1 R1 s1⟩
theorem js_ret {f : En → Option (PyData × En)} (h : JE X e f) : JS X (.Return (some e) pos) (dRet f) := ps_im (ps_ret h) fun D σ H ⟨B, F, G, fl, G', R, e, k⟩ => by
  obtain ⟨⟨x, G1⟩, e1, e⟩ := Option.bind_eq_some_iff.mp e
  cases e
  exact ⟨B, F, G, x, _, R, e1, fun v F1 H1 R1 s1 q1 => k v σ F1 H1 R1 s1 q1 (fun a _ ⟨_, z⟩ => nomatch z)⟩
theorem js_retN {f : En → Option (List PyData × En)} (h : JN X e f) : JS X (.Return (some e) pos) (dRetN f) := ps_im (ps_ret h) fun D σ H ⟨B, F, G, fl, G', R, e, k⟩ => by
  obtain ⟨⟨x, G1⟩, e1, e⟩ := Option.bind_eq_some_iff.mp e
  cases e
  refine ⟨B, F, G, x, _, R, e1, fun l ws F1 H1 R1 s1 n hl q1 hb ho => k _ σ F1 H1 R1 s1 ⟨l, ws, rfl, .inl hb, n, hl, q1⟩ fun a z _ => ?_⟩
  cases z
  exact ho
theorem js_ret0 : JS X (.Return none pos) dRet0 := ps_im ps_retN fun D σ H ⟨B, F, G, fl, G', R, e, k⟩ => by
  cases e
  exact k _ σ F H R (.refl F) .non (fun a _ ⟨_, z⟩ => nomatch z)
theorem js_retV {x : Str} (i : Nat) (h : PE X (.Name x p) (tVar i)) : JS X (.Return (some (.Name x p)) pos) (dRetV i) := ps_im (ps_ret h) fun D σ H ⟨B, F, G, fl, G', R, e, k⟩ => by
  unfold dRetV at e
  split at e
  · rename_i ds eg
    cases e
    obtain ⟨a, vs, ea, _, n, l, q⟩ := R.own eg
    refine ⟨_, ea, k _ σ F H R.forget (.refl F) ⟨a, vs, rfl, R.born i _ _ a eg ea, n, l, q⟩ fun b z _ j hj => ?_⟩
    cases z
    obtain ⟨⟨jo, es, h1⟩, ej⟩ := hj
    by_cases hji : i = j
    · subst hji
      exact nomatch (set_at h1).2
    · rw [List.getElem?_set_ne hji] at h1
      exact hji (R.one ⟨⟨_, ds, eg⟩, ea⟩ ⟨⟨jo, es, h1⟩, ej⟩)
  · rename_i d eg
    cases e
    obtain ⟨v, ev, q⟩ := R.dat eg
    exact ⟨v, ev, k v σ F H R (.refl F) q (fun a _ ⟨_, z⟩ => nomatch z)⟩
  · cases e
theorem js_if {ft : En → Option (Bool × En)} {f g : En → Option (Fl × En)} {sa sb : List Stmt} (ht : JT X c ft) (h : JSs X sa f) (hr : JSs X sb g) : JS X (.If c sa sb pos) (dIfS ft f g) := ps_im (ps_if ht h hr) fun D σ H ⟨B, F, G, fl, G', R, e, k⟩ => by
  obtain ⟨⟨x, G1⟩, e1, e⟩ := Option.bind_eq_some_iff.mp e
  refine ⟨B, F, G, x, G1, R, e1, fun F1 H1 R1 s1 => ?_⟩
  cases x with
  | true => exact ⟨B, F1, G1, fl, G', R1, e, k.mono s1⟩
  | false => exact ⟨B, F1, G1, fl, G', R1, e, k.mono s1⟩
/-- name = e; hp is ps_set's own shape at e -/
theorem js_set {f : En → Option (PyData × En)} {i : Nat} (hp : PS X st (tAsg (tJ X.K f) (gName i))) : JS X st (dSet i f) := ps_im hp fun D σ H ⟨B, F, G, fl, G', R, e, k⟩ => by
  obtain ⟨⟨x, G1⟩, e1, e⟩ := Option.bind_eq_some_iff.mp e
  cases e
  exact ⟨B, F, G, x, G1, R, e1, fun v F1 H1 R1 s1 q1 => k _ F1 H1 (R1.set q1) s1⟩
theorem js_setN {f : En → Option (List PyData × En)} {i : Nat} (hp : PS X st (tAsg (tN X.K f) (gName i))) : JS X st (dSetN i f) := ps_im hp fun D σ H ⟨B, F, G, fl, G', R, e, k⟩ => by
  obtain ⟨⟨x, G1⟩, e1, e⟩ := Option.bind_eq_some_iff.mp e
  cases e
  exact ⟨B, F, G, x, G1, R, e1, fun l ws F1 H1 R1 s1 n hl q1 hb ho => k _ F1 H1 (R1.setOwn n hl q1 (.inl hb) ho) s1⟩
/-- x op= e -/
def dAug (g : PyData → PyData → Option PyData) (i : Nat) (f : En → Option (PyData × En)) : En → Option (Fl × En) := fun G => match G[i]? with
  | some (.dat x) => (f G).bind fun r => (g x r.1).bind fun z => some (.nx, r.2.set i (.dat z))
  | _ => none
theorem js_aug {f : En → Option (PyData × En)} {i : Nat} {op : Int → Int → Int} (hp : PS X st (tAug i (tJ X.K f) (ipI op))) : JS X st (dAug (g2I fun a b => some (.int (op a b))) i f) := ps_im hp fun D σ H ⟨B, F, G, fl, G', R, e, k⟩ => by
  unfold dAug at e
  split at e
  · rename_i x eg
    obtain ⟨⟨y, G1⟩, e1, e⟩ := Option.bind_eq_some_iff.mp e
    obtain ⟨z, e2, e⟩ := Option.bind_eq_some_iff.mp e
    cases e
    obtain ⟨v, ev, q⟩ := R.dat eg
    refine ⟨v, ev, B, F, G, y, G1, R, e1, fun w F1 H1 R1 s1 q1 => ?_⟩
    dsimp only at e2
    unfold g2I at e2
    split at e2
    · cases e2
      cases q
      cases q1
      exact ⟨_, _, rfl, rfl, k _ F1 H1 (R1.set (.int _)) s1⟩
    · cases e2
  · cases e

/-! ### targets -/
/-- vs: the slots that the target may change -/
def tG (K : PySem.W.Frag) (vs : List Nat) (gt : PyData → En → Option En) : TG := fun v σ H Q => ∃ (B : Bs) (F : Hp) (G : En) (d : PyData) (G' : En), Rp K B G σ F H ∧ Dq K F v d ∧ gt d G = some G' ∧
  ∀ σ' F' H', Rp K B G' σ' F' H' → Same F F' → wipe σ' vs = wipe σ vs → Q σ' H'
def tGs (K : PySem.W.Frag) (vs : List Nat) (gt : List PyData → En → Option En) : TGs := fun us σ H Q => ∃ (B : Bs) (F : Hp) (G : En) (ds : List PyData) (G' : En), Rp K B G σ F H ∧ DqAll K F us ds ∧ gt ds G = some G' ∧
  ∀ σ' F' H', Rp K B G' σ' F' H' → Same F F' → wipe σ' vs = wipe σ vs → Q σ' H'
abbrev JG (X : Cx) (vs : List Nat) (e : Expr) (gt : PyData → En → Option En) : Prop := PG X e (tG X.K vs gt)
abbrev JGs (X : Cx) (vs : List Nat) (es : List Expr) (gt : List PyData → En → Option En) : Prop := PGs X es (tGs X.K vs gt)
theorem pg_im {t t' : TG} (h : PG X e t) (i : ∀ v σ H Q, t' v σ H Q → t v σ H Q) : PG X e t' := ⟨fun pins s σ H v u Q I r w => h.run pins s σ H v u Q I r (i _ _ _ _ w)⟩
theorem pgs_im {t t' : TGs} (h : PGs X es t) (i : ∀ v σ H Q, t' v σ H Q → t v σ H Q) : PGs X es t' := ⟨fun pins s σ H v u Q I r w => h.run pins s σ H v u Q I r (i _ _ _ _ w)⟩
theorem wipe_get (σ : L2.St) (i : Nat) : ∀ vs : List Nat, (wipe σ vs)[i]? = if i ∈ vs then (if i < σ.length then some none else none) else σ[i]?
  | [] => by simp [wipe]
  | v :: vs => by
    unfold wipe
    by_cases hv : v = i
    · subst hv
      by_cases hl : v < σ.length
      · rw [List.getElem?_set_self (by rw [wipe_length]; exact hl)]
        simp [hl]
      · rw [List.getElem?_eq_none (by rw [List.length_set, wipe_length]; omega)]
        simp [hl]
    · rw [List.getElem?_set_ne hv, wipe_get σ i vs]
      have : ¬ i = v := fun z => hv z.symm
      simp [this]
theorem wipe_set {σ : L2.St} {vs : List Nat} {i : Nat} (h : i ∈ vs) (y : Option V) : wipe (σ.set i y) vs = wipe σ vs := by
  refine List.ext_getElem? fun k => ?_
  rw [wipe_get, wipe_get, List.length_set]
  by_cases hk : k ∈ vs
  · rw [if_pos hk, if_pos hk]
  · rw [if_neg hk, if_neg hk, List.getElem?_set_ne (show i ≠ k from fun z => hk (by rw [← z]; exact h))]
def dgN (i : Nat) : PyData → En → Option En := fun d G => some (G.set i (.dat d))
theorem jg_name {i : Nat} {vs : List Nat} (h : PG X e (gName i)) (hi : i ∈ vs := by decide) : JG X vs e (dgN i) := pg_im h fun v σ H Q ⟨B, F, G, d, G', R, q, e, k⟩ => by
  cases e
  exact k _ F H (R.set q) (.refl F) (wipe_set hi _)
def dgs0 : List PyData → En → Option En := fun ds G => match ds with
  | [] => some G
  | _ => none
def dgsC (g : PyData → En → Option En) (r : List PyData → En → Option En) : List PyData → En → Option En := fun ds G => match ds with
  | [] => none
  | d :: rest => (g d G).bind fun G1 => r rest G1
theorem jgs_nil {vs : List Nat} : JGs X vs [] dgs0 := pgs_im pgs_nil fun v σ H Q ⟨B, F, G, d, G', R, q, e, k⟩ => by
  unfold dgs0 at e
  split at e
  · cases e
    cases q
    exact ⟨rfl, k σ F H R (.refl F) rfl⟩
  · cases e
theorem jgs_cons {vs : List Nat} {g : PyData → En → Option En} {r : List PyData → En → Option En} (h : JG X vs e g) (hr : JGs X vs es r) (hs : (assignEach (e :: es) X.env).map (·.2) = assign e X.env :: (assignEach es X.env).map (·.2) := by rfl) : JGs X vs (e :: es) (dgsC g r) :=
  pgs_im (pgs_cons h hr hs) fun v σ H Q ⟨B, F, G, d, G', R, q, e, k⟩ => by
    unfold dgsC at e
    split at e
    · cases e
    · obtain ⟨G1, e1, e⟩ := Option.bind_eq_some_iff.mp e
      cases q with
      | cons q1 q2 => exact ⟨_, _, rfl, B, F, G, _, G1, R, q1, e1, fun σ1 F1 H1 R1 s1 w1 => ⟨B, F1, G1, _, G', R1, dpAll_mono s1 q2, e, fun σ2 F2 H2 R2 s2 w2 => k σ2 F2 H2 R2 (s1.trans s2) (w2.trans w1)⟩⟩
def dgT (n : Nat) (r : List PyData → En → Option En) : PyData → En → Option En := fun d G => match d with
  | .tuple ds => if ds.length = n then r ds G else none
  | _ => none
theorem jg_tup {vs : List Nat} {k n : Nat} {r : List PyData → En → Option En} (hc : X.calm = true) (h : JGs X vs es r) (hn : (assignEach es X.env).length = n := by rfl) (hst : (assignEach es X.env).findIdx? (·.1) = none := by rfl) : JG X vs (.Tuple es k pos) (dgT n r) :=
  pg_im (pg_tup hc h hn hst) fun v σ H Q ⟨B, F, G, d, G', R, q, e, k⟩ => by
    unfold dgT at e
    split at e
    · split at e
      · rename_i ds hl
        cases q with
        | tup h1 q1 => exact ⟨_, _, rfl, Same.seqT R.same h1, by rw [dp_len q1]; exact hl, B, F, G, ds, G', R, q1, e, k⟩
      · cases e
    · cases e
/-- x[k] = .., x of one's own -/
def isOwn : Option Sl → Bool
  | some (.own _ _) => true
  | _ => false
theorem Rp.isOwn {K : PySem.W.Frag} {B : Bs} {G : En} {σ : L2.St} {F H : Hp} (R : Rp K B G σ F H) {i : Nat} (e : isOwn G[i]? = true) : ∃ a vs, σ[i]? = some (some (.ref a)) ∧ H a = some (.lst vs) := by
  unfold Jd.isOwn at e
  split at e
  · rename_i io ds eg
    obtain ⟨a, vs, ea, _, _, l, _⟩ := R.own eg
    exact ⟨a, vs, ea, l⟩
  · cases e
def dgS (i : Nat) (f : En → Option (PyData × En)) : PyData → En → Option En := fun d G => if isOwn G[i]? = true then (f G).bind fun r => match r.1, r.2[i]? with
  | .int k, some (.own io ds) => (ixN ds.length k).bind fun j => some (r.2.set i (.own io (ds.set j d)))
  | _, _ => none
  else none
theorem jg_sub {x : Str} (i : Nat) {f : En → Option (PyData × En)} (hv : PE X (.Name x p) (tVar i)) (h : JE X e f)
    (ha : ∀ v, assign (.Subscript (.Name x p) e pos) X.env v = (do
      let ov ← holding [v] (eval (.Name x p) X.env)
      let iv ← holding [v, ov] (eval e X.env)
      standAt pos
      holding [v, ov, iv] (setItem ov iv v)
      release [v, ov, iv] []) := by intro _; rfl) {vs : List Nat} : JG X vs (.Subscript (.Name x p) e pos) (dgS i f) := pg_im (pg_sub hv h set_list ha) fun v σ H Q ⟨B, F, G, d, G', R, q, e, k⟩ => by
  unfold dgS at e
  split at e
  · rename_i ho
    obtain ⟨a, vs, ea, _⟩ := R.isOwn ho
    obtain ⟨⟨y, G1⟩, e1, e⟩ := Option.bind_eq_some_iff.mp e
    dsimp only at e
    split at e
    · rename_i kk io ds eg
      obtain ⟨j, e2, e⟩ := Option.bind_eq_some_iff.mp e
      cases e
      refine ⟨_, ea, B, F, G, _, G1, R, e1, fun w F1 H1 R1 s1 q1 => ?_⟩
      cases q1
      obtain ⟨b, us, eb, _, n, l, q2⟩ := R1.own eg
      rw [ea] at eb
      cases eb
      refine ⟨a, us, kk, j, rfl, rfl, l, by rw [dp_len q2]; exact e2, ?_⟩
      exact k σ F1 _ (R1.change eg ea (dp_set q2 (dp_mono s1 q) j)) s1 rfl
    · cases e
  · cases e
/-! ### methods that change a list of one's own -/
def PrM (K : PySem.W.Frag) (r : V → List V → Hp → VK → Prop) (g : List PyData → List PyData → Option (PyData × List PyData)) : Prop :=
  ∀ (F H : Hp) (a : Addr) (vs ws : List V) (ds xs ds' : List PyData) (z : PyData) (Q : VK), Same F H → H a = some (.lst vs) → DqAll K F vs ds → DqAll K F ws xs → g ds xs = some (z, ds') →
    (∀ u vs', Dq K F u z → DqAll K F vs' ds' → Q u (upd H a (.lst vs'))) → r (.ref a) ws H Q
def dMeth (g : List PyData → List PyData → Option (PyData × List PyData)) (i : Nat) (fs : En → Option (List PyData × En)) : En → Option (PyData × En) := fun G => if isOwn G[i]? = true then (fs G).bind fun r => match r.2[i]? with
  | some (.own io ds) => (g ds r.1).bind fun z => some (z.1, r.2.set i (.own io z.2))
  | _ => none
  else none
theorem meth_core {K : PySem.W.Frag} {r : V → List V → Hp → VK → Prop} {g : List PyData → List PyData → Option (PyData × List PyData)} {i : Nat} {fs : En → Option (List PyData × En)} (hp : PrM K r g) {σ : L2.St} {H : Hp} {Q : VK} (h : tJ K (dMeth g i fs) σ H Q) :
    tBM K "list" r (tVar i) (tJs K fs) σ H Q := by
  obtain ⟨B, F, G, d, G', R, e, k⟩ := h
  unfold dMeth at e
  split at e
  · rename_i ho
    obtain ⟨a, vs, ea, l0⟩ := R.isOwn ho
    obtain ⟨⟨xs, G1⟩, e1, e⟩ := Option.bind_eq_some_iff.mp e
    dsimp only at e
    split at e
    · rename_i io ds eg
      obtain ⟨⟨z, ds'⟩, e2, e⟩ := Option.bind_eq_some_iff.mp e
      cases e
      refine ⟨_, ea, .inl ⟨rfl, vs, .inl (.inl l0)⟩, B, F, G, xs, G1, R, e1, fun ws F1 H1 R1 s1 q1 => ?_⟩
      obtain ⟨b, us, eb, _, n, l, q2⟩ := R1.own eg
      rw [ea] at eb
      cases eb
      exact hp F1 H1 a us ws ds xs ds' _ Q R1.same l q2 q1 e2 fun u vs' qu qv => k u F1 _ (R1.change eg ea qv) s1 qu
    · cases e
  · cases e
theorem je_meth (i : Nat) {r : V → List V → Hp → VK → Prop} {g : List PyData → List PyData → Option (PyData × List PyData)} {fs : En → Option (List PyData × En)} (hp : PrM X.K r g) (h : PE X e (tBM X.K "list" r (tVar i) (tJs X.K fs))) : JE X e (dMeth g i fs) := pe_im h fun _ _ _ h => meth_core hp h
/-- without arguments -/
def dMeth0 (g : List PyData → List PyData → Option (PyData × List PyData)) (i : Nat) : En → Option (PyData × En) := fun G => match G[i]? with
  | some (.own io ds) => (g ds []).bind fun z => some (z.1, G.set i (.own io z.2))
  | _ => none
theorem je_meth0 (i : Nat) {r : V → List V → Hp → VK → Prop} {g : List PyData → List PyData → Option (PyData × List PyData)} (hp : PrM X.K r g) (h : PE X e (tBM0 X.K "list" r (tVar i))) : JE X e (dMeth0 g i) := pe_im h fun σ H Q ⟨B, F, G, d, G', R, e, k⟩ => by
  unfold dMeth0 at e
  split at e
  · rename_i io ds eg
    obtain ⟨⟨z, ds'⟩, e2, e⟩ := Option.bind_eq_some_iff.mp e
    cases e
    obtain ⟨a, us, ea, _, n, l, q2⟩ := R.own eg
    exact ⟨_, ea, .inl ⟨rfl, us, .inl (.inl l)⟩, hp F H a us [] ds [] ds' _ Q R.same l q2 .nil e2 fun u vs' qu qv => k u F _ (R.change eg ea qv) (.refl F) qu⟩
  · cases e
end
section
variable {K : PySem.W.Frag}
def gApp (ds xs : List PyData) : Option (PyData × List PyData) := match xs with
  | [x] => if ds.length < big then some (.none, ds ++ [x]) else none
  | _ => none
theorem dq1 {F : Hp} {vs : List V} {d : PyData} (h : DqAll K F vs [d]) : ∃ v, vs = [v] ∧ Dq K F v d := by
  cases h with
  | cons h1 h2 => cases h2; exact ⟨_, rfl, h1⟩
theorem dq2 {F : Hp} {vs : List V} {d e : PyData} (h : DqAll K F vs [d, e]) : ∃ v w, vs = [v, w] ∧ Dq K F v d ∧ Dq K F w e := by
  cases h with
  | cons h1 h2 =>
    cases h2 with
    | cons h2 h3 => cases h3; exact ⟨_, _, rfl, h1, h2⟩
theorem pr_app : PrM K rAppend gApp := by
  intro F H a vs ws ds xs ds' z Q s l q q1 e k
  unfold gApp at e
  split at e
  · split at e
    · rename_i hl
      cases e
      obtain ⟨v, rfl, qv⟩ := dq1 q1
      refine ⟨a, vs, v, rfl, rfl, l, ?_, k _ _ .non (dp_app q (.cons qv .nil))⟩
      rw [dp_len q]
      exact Nat.lt_of_lt_of_le hl (big_le (Nat.le_refl _))
    · cases e
  · cases e
/-- x.pop() -/
def gPop (ds xs : List PyData) : Option (PyData × List PyData) := match xs with
  | [] => (ds[ds.length - 1]?).bind fun d => some (d, ds.dropLast)
  | _ => none
theorem dp_dropLast {F : Hp} {vs : List V} {ds : List PyData} (h : DqAll K F vs ds) : DqAll K F vs.dropLast ds.dropLast := by
  rw [List.dropLast_eq_take, List.dropLast_eq_take, dp_len h]
  exact dp_take h _
theorem pr_pop : PrM K rPop gPop := by
  intro F H a vs ws ds xs ds' z Q s l q q1 e k
  unfold gPop at e
  split at e
  · obtain ⟨d, e1, e⟩ := Option.bind_eq_some_iff.mp e
    cases e
    cases q1
    obtain ⟨v, e2, qv⟩ := dp_get q e1
    exact ⟨a, vs, v, rfl, rfl, l, by rw [dp_len q]; exact e2, k _ _ qv (dp_dropLast q)⟩
  · cases e
/-- x.pop(k) -/
def gPopAt (ds xs : List PyData) : Option (PyData × List PyData) := match xs with
  | [.int k] => if -(2 ^ 63) ≤ k ∧ k < 2 ^ 63 then (ixN ds.length k).bind fun j => (ds[j]?).bind fun d => some (d, ds.eraseIdx j) else none
  | _ => none
theorem pr_popAt : PrM K rPopAt gPopAt := by
  intro F H a vs ws ds xs ds' z Q s l q q1 e k
  unfold gPopAt at e
  split at e
  · split at e
    · rename_i hb
      obtain ⟨j, e1, e⟩ := Option.bind_eq_some_iff.mp e
      obtain ⟨d, e2, e⟩ := Option.bind_eq_some_iff.mp e
      cases e
      obtain ⟨v, rfl, qv⟩ := dq1 q1
      cases qv
      obtain ⟨w, e3, qw⟩ := dp_get q e2
      refine ⟨a, vs, _, j, w, rfl, rfl, l, hb.1, hb.2, ?_, e3, k _ _ qw (dp_erase q j)⟩
      rw [dp_len q]
      exact (ixN_seq e1).1
    · cases e
  · cases e
/-- x.extend(y) of a frozen list -/
def gExt (ds xs : List PyData) : Option (PyData × List PyData) := match xs with
  | [.list es] => if ds.length + es.length ≤ big then some (.none, ds ++ es) else none
  | _ => none
def rExtendR (K : PySem.W.Frag) : V → List V → Hp → VK → Prop := fun x vs H Q => ∃ l b xs zs, x = .ref l ∧ vs = [.ref b] ∧ H l = some (.lst xs) ∧ Ls K H b zs ∧ xs.length + zs.length ≤ sizeLine ∧ Q .non (upd H l (.lst (xs ++ zs)))
theorem pr_ext : PrM K (rExtendR K) gExt := by
  intro F H a vs ws ds xs ds' z Q s l q q1 e k
  unfold gExt at e
  split at e
  · split at e
    · rename_i hl
      cases e
      obtain ⟨v, rfl, qv⟩ := dq1 q1
      cases qv with
      | lst h1 h2 =>
        refine ⟨a, _, vs, _, rfl, rfl, l, Same.ls s h1, ?_, k _ _ .non (dp_app q h2)⟩
        rw [dp_len q, dp_len h2]
        exact big_le hl
    · cases e
  · cases e
end
end Jd
/-! Jd: zip over a list and a tuple in any mix. -/
namespace Jd
open PySem PySem.Spec PyProof.Rows L2
/-- a tuple (k) or a list -/
def SqB (K : PySem.W.Frag) (H : Hp) (k : Bool) (a : Addr) (xs : List V) : Prop := match k with
  | true => SqT K H a xs
  | false => SqL K H a xs
def ItB (k : Bool) (it l : Addr) (i : Nat) (h : Heap) : Prop := match k with
  | true => h.IsTupleIter it l i
  | false => h.IsListIter it l i
def AtB (k : Bool) (l : Addr) (q : Array Value) (h : Heap) : Prop := match k with
  | true => h.IsTuple l q
  | false => h.IsList l q
def objB (k : Bool) (l : Addr) : Obj := match k with
  | true => { cls := .type "tuple_iterator", data := .fields #[.ref l, .int 0 0] }
  | false => { cls := .type "list_iterator", data := .fields #[.ref l, .int 0 0] }
theorem drawsB {P : Program} {w : World} {A : Around} (hh : A.handled = none) (k : Bool) (it l : Addr) (hne : l ≠ it) (q : Array Value) :
    Draws P w A it [it, l] q.size (fun i v => q[i]? = some v) (fun i h => ItB k it l i h ∧ AtB k l q h) := by
  cases k
  · exact Draws.list hh it l hne q
  · exact Draws.tuple hh it l hne q
theorem begB (k : Bool) (l : Addr) (q : Array Value) : Begins (.ref l) (objB k l) (AtB k l q) := by
  cases k
  · exact begins_list l q
  · exact begins_tuple l q
theorem itB_at {k : Bool} {it l : Addr} {i : Nat} {h h' : Heap} (x : ItB k it l i h) (e : ∀ o, h.get? it = some o → h'.get? it = some o) : ItB k it l i h' := by
  cases k
  · exact Heap.IsListIter.at x e
  · exact Heap.IsTupleIter.at x e
theorem itB_get {k : Bool} {it l : Addr} {i : Nat} {h : Heap} (x : ItB k it l i h) : ∃ o, h.get? it = some o ∧ ∀ v, o.data ≠ .cell v := by
  cases k
  · obtain ⟨o, e, _, d⟩ := x
    exact ⟨o, e, fun v q => by rw [d] at q; cases q⟩
  · obtain ⟨o, e, _, d⟩ := x
    exact ⟨o, e, fun v q => by rw [d] at q; cases q⟩
theorem itB_new {k : Bool} {it l : Addr} {h : Heap} (e : h.get? it = some (objB k l)) : ItB k it l 0 h := by
  cases k
  · exact ⟨_, e, rfl, rfl⟩
  · exact ⟨_, e, rfl, rfl⟩
section
variable {X : Cx} {pins : List (Addr × Obj)} {σ : L2.St} {H : Hp} {s : Shared} {a : Addr} {xs ys : List V} {k : Bool}
theorem sqB_inv (I : Inv X pins σ H s) (h : SqB X.K H k a xs) : ∃ us : List Value, Vals xs us ∧ AtB k a us.toArray s.heap := by
  cases k
  · obtain ⟨us, r, p, _⟩ := I.list h
    exact ⟨us, r, p.isList⟩
  · obtain ⟨us, r, p, _⟩ := I.tuple h
    exact ⟨us, r, p⟩
theorem sqB_inj (I : Inv X pins σ H s) (h : SqB X.K H k a xs) (h' : SqB X.K H k a ys) : xs = ys := by
  cases k
  · exact I.list_inj h h'
  · exact I.tuple_inj h h'
theorem atB_lt {q : Array Value} {h : Heap} (x : AtB k a q h) : a < h.objs.size := by
  cases k
  · obtain ⟨o, e, _⟩ := x
    exact Heap.lt_size e
  · obtain ⟨o, e, _⟩ := x
    exact Heap.lt_size e
end
/-- what a zip of a and b yields, each turn a new pair -/
def ItM (K : PySem.W.Frag) (k : Bool) (a : Addr) (m : Bool) (b : Addr) : It where
  go := fun i H => ∃ (xs ys : List V) (x y : V), SqB K H k a xs ∧ SqB K H m b ys ∧ xs[i]? = some x ∧ ys[i]? = some y
  yld := fun i H v G => ∃ T x y, v = .ref T ∧ H T = none ∧ G = upd H T (.tup [x, y]) ∧ (∀ xs, SqB K H k a xs → xs[i]? = some x) ∧ (∀ ys, SqB K H m b ys → ys[i]? = some y)
  stop := fun i H => ∃ xs ys : List V, SqB K H k a xs ∧ SqB K H m b ys ∧ i ≤ xs.length ∧ i ≤ ys.length ∧ (i = xs.length ∨ i = ys.length)
/-- the five records of a zip -/
def ZipAt (z TI TO i1 i2 : Addr) (k : Bool) (a : Addr) (m : Bool) (b : Addr) (i : Nat) (h : Heap) : Prop :=
  IsZip h z TI TO .none ∧ IsTupOf2 h TI (.ref i1) (.ref i2) ∧ (∃ x y, IsTupOf2 h TO x y) ∧ ItB k i1 a i h ∧ ItB m i2 b i h
theorem five {c z TI TO i1 i2 : Addr} (h : c ∈ [z, TI, TO, i1, i2]) : c = z ∨ c = TI ∨ c = TO ∨ c = i1 ∨ c = i2 := by simpa using h
theorem turn_zipM {P : Program} {w : World} {K : PySem.W.Frag} {elts : List Expr} {kk : Nat} {tpos : Pos} {k m : Bool} {a b z TI TO i1 i2 : Addr} (D : ZipSep2 z TI TO i1 i2 [i1, a] [i2, b]) (na : a ≠ i1) (nb : b ≠ i2) :
    Turn P w K (.Tuple elts kk tpos) (ItM K k a m b) [z, TI, TO, i1, i2] z (ZipAt z TI TO i1 i2 k a m b) where
  mem := by simp
  obj := fun i h st c hc => by
    obtain ⟨tz, tI, ⟨x, y, tO⟩, t1, t2⟩ := st
    rcases five hc with q | q | q | q | q <;> subst q
    · exact ⟨_, tz, fun v q => by cases q⟩
    · exact ⟨_, tI, fun v q => by cases q⟩
    · exact ⟨_, tO, fun v q => by cases q⟩
    · exact itB_get t1
    · exact itB_get t2
  keep := fun i h h' ⟨tz, tI, ⟨x, y, tO⟩, t1, t2⟩ e =>
    have f : ∀ c o, c ∈ [z, TI, TO, i1, i2] → h.get? c = some o → h'.get? c = some o := fun c o hc => e c hc o
    ⟨f z _ (by simp) tz, f TI _ (by simp) tI, ⟨x, y, f TO _ (by simp) tO⟩, itB_at t1 fun o => f i1 o (by simp), itB_at t2 fun o => f i2 o (by simp)⟩
  item := fun X e1 e2 e3 calm i pins s σ H E I hf ⟨tz, tI, ⟨x0, y0, tO⟩, t1, t2⟩ ⟨xs, ys, x, y, sx, sy, gx, gy⟩ => by
    subst e1 e2 e3
    obtain ⟨us, rx, ax⟩ := sqB_inv I sx
    obtain ⟨vs, ry, ay⟩ := sqB_inv I sy
    obtain ⟨u, gu, ru⟩ := rx.get gx
    obtain ⟨v, gv, rv⟩ := ry.get gy
    have gu' : us.toArray[i]? = some u := by simpa using gu
    have gv' : vs.toArray[i]? = some v := by simpa using gv
    have hh : X.A.in1.handled = none := I.ok.hd calm
    have zlt := Heap.lt_size tz
    refine wpAny_pyNext_zipD2_item D (drawsB hh k i1 a na us.toArray) (drawsB hh m i2 b nb vs.toArray) tz tI tO ⟨t1, ax⟩ ⟨t2, ay⟩ (Array.getElem?_eq_some_iff.mp gu').1 (Array.getElem?_eq_some_iff.mp gv').1 fun w1 w2 g tk p1 p2 nz nO n1 n2 nT _ old => ?_
    cases gu'.symm.trans p1
    cases gv'.symm.trans p2
    refine ⟨_, rfl, wpAny_letOwnedTupleGo_zip nz fun g2 oz same => ?_⟩
    have up : ∀ c o, c ≠ z → g.get? c = some o → g2.get? c = some o := fun c o nc e => (same.2 c nc).trans e
    have nT2 := up s.heap.objs.size _ (Nat.ne_of_gt zlt) nT
    have fresh : ObjOk X.prog X.w (upd H s.heap.objs.size (.tup [x, y])) g2 s.heap.objs.size (.tup [x, y]) :=
      ⟨(by decide : 2 ≤ sizeLine), [u, v], .cons ru (.cons rv .nil), ⟨_, nT2, rfl, _, rfl⟩⟩
    have I' : Inv X pins σ (upd H s.heap.objs.size (.tup [x, y])) { s with heap := g2, toks := tk } :=
      I.turnedNew (t' := tk) (ch := [z, TI, TO, i1, i2]) (fun c o no e => up c o (fun q => no (by simp [q])) (old c o (fun q => no (by simp [q])) (fun q => no (by simp [q])) (fun q => no (by simp [q])) (fun q => no (by simp [q])) e)) hf (Nat.le_refl _) fresh
    refine ⟨.ref s.heap.objs.size, _, I', rfl, ⟨_, x, y, rfl, I.hok.fresh (Nat.le_refl _), rfl, fun l hl => sqB_inj I hl sx ▸ gx, fun l hl => sqB_inj I hl sy ▸ gy⟩, ⟨oz, up TI _ D.TIz (old TI _ D.TIz D.TITO D.TIi1 D.TIi2 tI), ⟨u, v, up TO _ D.TOz nO⟩, itB_at n1.1 fun o e => up i1 o D.zi1.symm e, itB_at n2.1 fun o e => up i2 o D.zi2.symm e⟩, fun c hc => ?_⟩
    have clt : c < s.heap.objs.size := by
      rcases five hc with q | q | q | q | q <;> subst q
      · exact zlt
      · exact Heap.lt_size tI
      · exact Heap.lt_size tO
      · obtain ⟨_, e, _⟩ := itB_get t1; exact Heap.lt_size e
      · obtain ⟨_, e, _⟩ := itB_get t2; exact Heap.lt_size e
    rw [upd_ne (Nat.ne_of_lt clt)]
    exact (hf c hc).1
  done := fun X e1 e2 e3 calm i pins s σ H E I hf ⟨tz, tI, ⟨x0, y0, tO⟩, t1, t2⟩ ⟨xs, ys, sx, sy, lx, ly, fin⟩ => by
    subst e1 e2 e3
    obtain ⟨us, rx, ax⟩ := sqB_inv I sx
    obtain ⟨vs, ry, ay⟩ := sqB_inv I sy
    have ex := rx.length
    have ey := ry.length
    have hh : X.A.in1.handled = none := I.ok.hd calm
    refine wpAny_pyNext_zipD2_end D (drawsB hh k i1 a na us.toArray) (drawsB hh m i2 b nb vs.toArray) tz tI tO ⟨t1, ax⟩ ⟨t2, ay⟩ (by simp; omega) (by simp; omega) (by simp; omega) fun g tk old => ⟨rfl, ?_⟩
    exact I.turnedL (t' := tk) (ch := [z, TI, TO, i1, i2]) (fun c o no e => old c o (fun q => no (by simp [q])) (fun q => no (by simp [q])) (fun q => no (by simp [q])) (fun q => no (by simp [q])) e) hf
  self := fun A i s Q E st h => wpAny_pyIter_zip st.1 h
def iZipM (K : PySem.W.Frag) (ta : TA) : TI := fun σ H R => ta σ H fun vs G => ∃ a b k m xs ys, vs = [.ref a, .ref b] ∧ SqB K G k a xs ∧ SqB K G m b ys ∧ R (ItM K k a m b) G
theorem pi_zipM {X : Cx} {e e2 : Expr} {ta : TA} {p pos tpos : Pos} {elts : List Expr} {kk : Nat} (hg : Gl X "zip") (hm : X.mg "zip" = none) (ha : PA X [e, e2] ta)
    (st : starEach [e, e2] X.env = (false, eval e X.env) :: starEach [e2] X.env := by rfl) (pl : (backTo pos (starEach [e2] X.env)).any (·.1) = false := by rfl) :
    PI X (.Tuple elts kk tpos) (.Call (.Name "zip" p) [e, e2] [] pos) (iZipM X.K ta) := ⟨fun pins s σ H R I h => by
  refine Call_ (ld_blt I hg hm PyProof.Rows.boot_zip (PyProof.Rows.callWith_type1 (thn (ha.run pos pins s σ H _ I h) fun us s1 ⟨vs, G, I1, r1, a, b, k, m, xs, ys, ev, sx, sy, q⟩ => ?_) st pl))
  subst ev
  obtain ⟨v1, v2, rfl, r1, r2⟩ : ∃ v1 v2, us = [v1, v2] ∧ RelV (.ref a) v1 ∧ RelV (.ref b) v2 := by
    cases r1 with
    | cons r rr => cases rr with
      | cons r' rr => cases rr; exact ⟨_, _, rfl, r, r'⟩
  cases r1
  cases r2
  obtain ⟨ps, _, ax⟩ := sqB_inv I1 sx
  obtain ⟨qs, _, ay⟩ := sqB_inv I1 sy
  have la := atB_lt ax
  have lb := atB_lt ay
  refine zip_begins2 (begB k a ps.toArray) (begB m b qs.toArray) ax ay fun g nz nI nO n1 n2 _ old => wpAny_pyIter_zip nz ?_
  have I2 : Inv X pins σ G { s1 with heap := g } := I1.kept (t' := s1.toks) old
  refine ⟨s1.heap.objs.size + 4, [s1.heap.objs.size + 4, s1.heap.objs.size + 2, s1.heap.objs.size + 3, s1.heap.objs.size, s1.heap.objs.size + 1], _, _, G, rfl, I2, turn_zipM (zip_sep2 (N := s1.heap.objs.size) (fun c hc => by cases List.mem_singleton.mp hc; exact la) (fun c hc => by cases List.mem_singleton.mp hc; exact lb)) (Nat.ne_of_lt la) (Nat.ne_of_lt (Nat.lt_succ_of_lt lb)), ⟨nz, nI, ⟨_, _, nO⟩, itB_new n1, itB_new n2⟩, fun c hc => ?_, q⟩
  have le : s1.heap.objs.size ≤ c := by
    rcases five hc with z | z | z | z | z <;> rw [z]
    · exact Nat.le_add_right _ _
    · exact Nat.le_add_right _ _
    · exact Nat.le_add_right _ _
    · exact Nat.le_refl _
    · exact Nat.le_add_right _ _
  exact I1.fpOk le (I1.hok.fresh le)⟩
/-! enumerate over a list or a tuple -/
set_option maxHeartbeats 1000000 in
theorem en_new {v : Value} {o : Obj} {Z : Heap → Prop} (B : Begins v o Z) : Meets (Builtin.«enumerate.__new__» ⟨[.type "enumerate", v], []⟩) fun _ R s => Z s.heap ∧
    R (.ok (.ret (.ref (s.heap.push o).objs.size))) { s with heap := (s.heap.push o).push { cls := .type "enumerate", data := .fields #[.none, .bool false, .ref s.heap.objs.size, rawInt 0, .none, .none] } } := .of_wp fun prog w A R s h => by
  obtain ⟨hp, g, d, tk, os⟩ := s
  obtain ⟨h1, h⟩ := h
  have sub1 := sub_enumerate
  have q : ∀ {A2 : Around} {E : Value → Shared → Prop} {Q : Value → Shared → Prop}, Q (.ref hp.objs.size) ⟨hp.push o, g, d, tk, os⟩ → wpAny (model prog w) A2 (pyIter v) Q E ⟨hp, g, d, tk, os⟩ := fun z => B.iter prog w _ _ ⟨hp, g, d, tk, os⟩ _ h1 z
  wp_walk using q
  refine wpAny_stack_any fun st => wpAny_pure ?_; split
  · rename_i c _ _ _ _ _; cases (c == Value.type "enumerate") <;> (wp_walk using q; exact ⟨_, rfl, h⟩)
  · wp_walk using q; exact ⟨_, rfl, h⟩
theorem en_call {P : Program} {w : World} {A : Around} {E : Value → Shared → Prop} {s : Shared} {v : Value} {o : Obj} {Z : Heap → Prop} {Q : Value → Shared → Prop} (B : Begins v o Z) (h1 : Z s.heap)
    (h : ∀ g, IsEnum g (s.heap.objs.size + 1) s.heap.objs.size 0 .none → g.get? s.heap.objs.size = some o → (∀ b u, s.heap.get? b = some u → g.get? b = some u) → Q (.ref (s.heap.objs.size + 1)) { s with heap := g }) :
    wpAny (model P w) A (call (.type "enumerate") [v]) Q E s := by
  refine callType_new PySem.F.called_enumerate (by decide) (PySem.F.typeCall_enumerate_1 _) (PySem.F.newCall_enumerate_1 _) (fun obj => PySem.F.args_object_init_2 obj _) PySem.F.entry_enumerate_new (en_new B) ⟨h1, ?_⟩
  have sz : (s.heap.push o).objs.size = s.heap.objs.size + 1 := Heap.size_push ..
  have at1 := Heap.get?_push_size (s.heap.push o) (o := { cls := .type "enumerate", data := .fields #[.none, .bool false, .ref s.heap.objs.size, rawInt 0, .none, .none] }) rfl
  show _ ∧ _
  rw [sz] at at1 ⊢
  exact ⟨⟨_, at1, rfl⟩, h _ at1 (Heap.get?_push_of_some _ (Heap.get?_push_size _ B.free)) fun b u e => Heap.get?_push_of_some _ (Heap.get?_push_of_some _ e)⟩
def ItN (K : PySem.W.Frag) (k : Bool) (a : Addr) : It where
  go := fun i H => ∃ (xs : List V) (x : V), SqB K H k a xs ∧ xs[i]? = some x
  yld := fun i H v G => ∃ T x, v = .ref T ∧ H T = none ∧ G = upd H T (.tup [.int (i : Nat), x]) ∧ ∀ xs, SqB K H k a xs → xs[i]? = some x
  stop := fun i H => ∃ xs : List V, SqB K H k a xs ∧ i = xs.length
theorem turn_enumM {P : Program} {w : World} {K : PySem.W.Frag} {elts : List Expr} {kk : Nat} {tpos : Pos} {k : Bool} {a e it : Addr} (ne : e ≠ it) (na : a ≠ it) (ea : e ≠ a) :
    Turn P w K (.Tuple elts kk tpos) (ItN K k a) [e, it] e (fun i h => (∃ old, IsEnum h e it ((i : Nat) : Int) old) ∧ ItB k it a i h) where
  mem := by simp
  obj := fun i h ⟨⟨old, te⟩, ti⟩ c hc => by
    have : c = e ∨ c = it := by simpa using hc
    rcases this with q | q <;> subst q
    · exact ⟨_, te, fun v q => by cases q⟩
    · exact itB_get ti
  keep := fun i h g ⟨⟨old, te⟩, ti⟩ f => ⟨⟨old, f e (by simp) _ te⟩, itB_at ti fun o => f it (by simp) o⟩
  item := fun X e1 e2 e3 calm i pins s σ H E I hf ⟨⟨old, te⟩, ti⟩ ⟨xs, x, sx, gx⟩ => by
    subst e1 e2 e3
    obtain ⟨us, rx, ax⟩ := sqB_inv I sx
    obtain ⟨u, gu, ru⟩ := rx.get gx
    have gu' : us.toArray[i]? = some u := by simpa using gu
    have hh : X.A.in1.handled = none := I.ok.hd calm
    have elt := Heap.lt_size te
    have ilt : it < s.heap.objs.size := by obtain ⟨_, z, _⟩ := itB_get ti; exact Heap.lt_size z
    have elt0 : e ∉ [it, a] := by simp [ne, ea]
    refine wpAny_pyNext_enum_itemC (drawsB hh k it a na us.toArray) te ⟨ti, ax⟩ (Array.getElem?_eq_some_iff.mp gu').1 ne elt0 fun w1 g tk p1 no ni nT _ old => ?_
    cases gu'.symm.trans p1
    refine ⟨_, rfl, wpAny_letOwnedTupleGo_enum no fun g2 oe same => ?_⟩
    have up : ∀ c o, c ≠ e → g.get? c = some o → g2.get? c = some o := fun c o nc z => (same.2 c nc).trans z
    have nT2 := up s.heap.objs.size _ (Nat.ne_of_gt elt) nT
    have fresh : ObjOk X.prog X.w (upd H s.heap.objs.size (.tup [.int (i : Nat), x])) g2 s.heap.objs.size (.tup [.int (i : Nat), x]) :=
      ⟨(by decide : 2 ≤ sizeLine), [.int (i : Nat) tk, u], .cons ⟨_, rfl⟩ (.cons ru .nil), ⟨_, nT2, rfl, _, rfl⟩⟩
    have I' : Inv X pins σ (upd H s.heap.objs.size (.tup [.int (i : Nat), x])) { s with heap := g2, toks := tk + 1 } :=
      I.turnedNew (t' := tk + 1) (ch := [e, it]) (fun c o nc z => up c o (fun q => nc (by simp [q])) (old c o (fun q => nc (by simp [q])) (fun q => nc (by simp [q])) z)) hf (Nat.le_refl _) fresh
    refine ⟨.ref s.heap.objs.size, _, I', rfl, ⟨_, x, rfl, I.hok.fresh (Nat.le_refl _), rfl, fun l hl => sqB_inj I hl sx ▸ gx⟩, ⟨⟨_, oe⟩, itB_at ni.1 fun o z => up it o ne.symm z⟩, fun c hc => ?_⟩
    have clt : c < s.heap.objs.size := by
      have : c = e ∨ c = it := by simpa using hc
      rcases this with q | q <;> subst q
      · exact elt
      · exact ilt
    rw [upd_ne (Nat.ne_of_lt clt)]
    exact (hf c hc).1
  done := fun X e1 e2 e3 calm i pins s σ H E I hf ⟨⟨old, te⟩, ti⟩ ⟨xs, sx, fin⟩ => by
    subst e1 e2 e3
    obtain ⟨us, rx, ax⟩ := sqB_inv I sx
    have hh : X.A.in1.handled = none := I.ok.hd calm
    have ex := rx.length
    have fin' : i = us.toArray.size := by simp; omega
    refine wpAny_pyNext_enum_endD (drawsB hh k it a na us.toArray) te (by rw [← fin']; exact ⟨ti, ax⟩) fun g z => ⟨rfl, ?_⟩
    exact I.turnedL (t' := s.toks) (ch := [e, it]) (fun c o nc q => z c o (fun w => nc (by simp [w])) q) hf
  self := fun A i s Q E ⟨⟨_, te⟩, _⟩ h => wpAny_pyIter_enum te h
def iEnumM (K : PySem.W.Frag) (ta : TA) : TI := fun σ H R => ta σ H fun vs G => ∃ a k xs, vs = [.ref a] ∧ SqB K G k a xs ∧ R (ItN K k a) G
theorem pi_enumM {X : Cx} {e : Expr} {ta : TA} {p pos tpos : Pos} {elts : List Expr} {kk : Nat} (hg : Gl X "enumerate") (hm : X.mg "enumerate" = none) (ha : PA X [e] ta) (st : starEach [e] X.env = [(false, eval e X.env)] := by rfl) :
    PI X (.Tuple elts kk tpos) (.Call (.Name "enumerate" p) [e] [] pos) (iEnumM X.K ta) := ⟨fun pins s σ H R I h => by
  refine Call_ (ld_blt I hg hm boot_enumerate (PyProof.Rows.callWith_type1 (thn (ha.run pos pins s σ H _ I h) fun us s1 ⟨vs, G, I1, r1, a, k, xs, ev, sx, q⟩ => ?_) st rfl))
  subst ev
  obtain ⟨v1, rfl, rv⟩ : ∃ v1, us = [v1] ∧ RelV (.ref a) v1 := by
    cases r1 with
    | cons r rr => cases rr; exact ⟨_, rfl, r⟩
  cases rv
  obtain ⟨ps, _, ax⟩ := sqB_inv I1 sx
  have la := atB_lt ax
  refine en_call (begB k a ps.toArray) ax fun g te t1 old => wpAny_pyIter_enum te ?_
  have I2 : Inv X pins σ G { s1 with heap := g } := I1.kept (t' := s1.toks) old
  refine ⟨s1.heap.objs.size + 1, [s1.heap.objs.size + 1, s1.heap.objs.size], _, _, G, rfl, I2, turn_enumM (Nat.succ_ne_self _) (Nat.ne_of_lt la) (Nat.ne_of_gt (Nat.lt_succ_of_lt la)), ⟨⟨.none, te⟩, itB_new t1⟩, fun c hc => ?_, q⟩
  have le : s1.heap.objs.size ≤ c := by
    have : c = s1.heap.objs.size + 1 ∨ c = s1.heap.objs.size := by simpa using hc
    rcases this with z | z <;> rw [z]
    · exact Nat.le_add_right _ _
    · exact Nat.le_refl _
  exact I1.fpOk le (I1.hok.fresh le)⟩
end Jd
/-! Jd: what is walked, for, while, list comprehensions. -/
namespace Jd
open PySem PySem.Spec PyProof.Rows L2 RZ
/-! ### what is walked: a list of data -/
structure Ylds (K : PySem.W.Frag) (F : Hp) (J : It) (ds : List PyData) : Prop where
  go : ∀ (i : Nat) (F1 H1 : Hp), Same F F1 → Same F1 H1 → i < ds.length → J.go i H1
  yld : ∀ (i : Nat) (F1 H1 H2 : Hp) (x : V), Same F F1 → Same F1 H1 → J.yld i H1 x H2 → i < ds.length → ∃ F2 d, ds[i]? = some d ∧ Grow F1 H1 F2 H2 ∧ Dq K F2 x d
  stop : ∀ (i : Nat) (F1 H1 : Hp), Same F F1 → Same F1 H1 → i = ds.length → J.stop i H1
theorem ylds_of {K : PySem.W.Frag} {F : Hp} {J : It} {ds : List PyData} (go : ∀ (i : Nat) (F1 H1 : Hp), Same F F1 → Same F1 H1 → i < ds.length → J.go i H1)
    (yld : ∀ (i : Nat) (F1 H1 H2 : Hp) (x : V), Same F F1 → Same F1 H1 → J.yld i H1 x H2 → i < ds.length → ∃ F2 d, ds[i]? = some d ∧ Grow F1 H1 F2 H2 ∧ Dq K F2 x d)
    (stop : ∀ (i : Nat) (F1 H1 : Hp), Same F F1 → Same F1 H1 → ds.length ≤ i → J.stop i H1) : Ylds K F J ds := ⟨go, yld, fun i F1 H1 s t hi => stop i F1 H1 s t (Nat.le_of_eq hi.symm)⟩
def tI (K : PySem.W.Frag) (gi : En → Option (List PyData × En)) : TI := fun σ H R => ∃ (B : Bs) (F : Hp) (G : En) (ds : List PyData) (G' : En), Rp K B G σ F H ∧ gi G = some (ds, G') ∧ ∀ J F' H', Rp K B G' σ F' H' → Same F F' → Ylds K F' J ds → R J H'
abbrev JI (X : Cx) (tg e : Expr) (gi : En → Option (List PyData × En)) : Prop := PI X tg e (tI X.K gi)
section
variable {X : Cx} {tg e : Expr}
theorem pi_im {w w' : TI} (h : PI X tg e w) (i : ∀ σ H R, w' σ H R → w σ H R) : PI X tg e w' := ⟨fun pins s σ H R I q => h.run pins s σ H R I (i _ _ _ q)⟩
theorem ylds_list {K : PySem.W.Frag} {F : Hp} {a : Addr} {vs : List V} {ds : List PyData} (h : Ls K F a vs) (q : DqAll K F vs ds) : Ylds K F (Itl K a) ds := by
  have at1 : ∀ {F1 H1 : Hp}, Same F F1 → Same F1 H1 → SqL K H1 a vs := fun s t => (Same.ls t (Same.ls s h)).sq
  refine ylds_of (fun i F1 H1 s t hi => ?_) (fun i F1 H1 H2 x s t y hi => ?_) (fun i F1 H1 s t hi => ⟨vs, at1 s t, by rw [dp_len q]; exact hi⟩)
  · have hv : i < vs.length := by rw [dp_len q]; exact hi
    exact ⟨vs, vs[i], at1 s t, List.getElem?_eq_getElem hv⟩
  · obtain ⟨rfl, y⟩ := y
    have e1 := y vs (at1 s t)
    obtain ⟨d, e2, qd⟩ := dp_getV q e1
    exact ⟨F1, d, e2, .refl t, dp_mono s qd⟩
theorem ylds_tup {K : PySem.W.Frag} {F : Hp} {a : Addr} {vs : List V} {ds : List PyData} (h : SqT K F a vs) (q : DqAll K F vs ds) : Ylds K F (Itt K a) ds := by
  have at1 : ∀ {F1 H1 : Hp}, Same F F1 → Same F1 H1 → SqT K H1 a vs := fun s t => Same.seqT t (Same.seqT s h)
  refine ylds_of (fun i F1 H1 s t hi => ?_) (fun i F1 H1 H2 x s t y hi => ?_) (fun i F1 H1 s t hi => ⟨vs, at1 s t, by rw [dp_len q]; exact hi⟩)
  · have hv : i < vs.length := by rw [dp_len q]; exact hi
    exact ⟨vs, vs[i], at1 s t, List.getElem?_eq_getElem hv⟩
  · obtain ⟨rfl, y⟩ := y
    have e1 := y vs (at1 s t)
    obtain ⟨d, e2, qd⟩ := dp_getV q e1
    exact ⟨F1, d, e2, .refl t, dp_mono s qd⟩
/-- a list or a tuple -/
def seqOf : PyData → Option (List PyData)
  | .list ds => some ds
  | .tuple ds => some ds
  | _ => none
def diSeq (f : En → Option (PyData × En)) : En → Option (List PyData × En) := fun G => (f G).bind fun r => (seqOf r.1).bind fun ds => some (ds, r.2)
theorem ji_seq {f : En → Option (PyData × En)} (h : JE X e f) : JI X tg e (diSeq f) := ⟨fun pins s σ H R I w => by
  obtain ⟨B, F, G, ds, G', Rr, e0, k⟩ := w
  obtain ⟨⟨d, G1⟩, e1, e2⟩ := Option.bind_eq_some_iff.mp e0
  obtain ⟨es, e3, e4⟩ := Option.bind_eq_some_iff.mp e2
  cases e4
  cases d with
  | list xs =>
    cases e3
    refine (pi_list h).run pins s σ H R I ⟨B, F, G, _, _, Rr, e1, fun v F1 H1 R1 s1 q1 => ?_⟩
    cases q1 with
    | lst h1 q1 => exact ⟨_, rfl, ⟨_, (Same.ls R1.same h1).sq⟩, k _ F1 H1 R1 s1 (ylds_list h1 q1)⟩
  | tuple xs =>
    cases e3
    refine (pi_tup h).run pins s σ H R I ⟨B, F, G, _, _, Rr, e1, fun v F1 H1 R1 s1 q1 => ?_⟩
    cases q1 with
    | tup h1 q1 => exact ⟨_, rfl, ⟨_, Same.seqT R1.same h1⟩, k _ F1 H1 R1 s1 (ylds_tup h1 q1)⟩
  | none => cases e3
  | bool b => cases e3
  | int i => cases e3
  | str z => cases e3
  | dict kvs => cases e3⟩
/-! range -/
def rangeD (lo : Int) (n : Nat) : List PyData := (List.range n).map fun i => .int (lo + (i : Nat))
theorem rangeD_get {lo : Int} {n i : Nat} (h : i < n) : (rangeD lo n)[i]? = some (.int (lo + (i : Nat))) := by
  unfold rangeD
  rw [List.getElem?_map, List.getElem?_range h]
  rfl
theorem rangeD_len {lo : Int} {n : Nat} : (rangeD lo n).length = n := by simp [rangeD]
theorem ylds_range {K : PySem.W.Frag} {F : Hp} {lo : Int} {n : Nat} : Ylds K F (Itr lo n) (rangeD lo n) := by
  refine ylds_of (fun i F1 H1 s t hi => by rw [rangeD_len] at hi; exact hi) (fun i F1 H1 H2 x s t y hi => ?_) (fun i F1 H1 s t hi => by rw [rangeD_len] at hi; exact hi)
  obtain ⟨rfl, rfl⟩ := y
  rw [rangeD_len] at hi
  exact ⟨F1, _, rangeD_get hi, .refl t, .int _⟩
def small62 (i : Int) : Bool := decide (-(2 ^ 62) ≤ i) && decide (i < 2 ^ 62)
theorem small62_of {i : Int} (h : small62 i = true) : -(2 ^ 62) ≤ i ∧ i < 2 ^ 62 := by
  unfold small62 at h
  rw [Bool.and_eq_true] at h
  exact ⟨of_decide_eq_true h.1, of_decide_eq_true h.2⟩
def diRange (fs : En → Option (List PyData × En)) : En → Option (List PyData × En) := fun G => (fs G).bind fun r => match r.1 with
  | [.int j] => if small62 j = true then some (rangeD 0 j.toNat, r.2) else none
  | [.int i, .int j] => if small62 i && small62 j then some (rangeD i (j - i).toNat, r.2) else none
  | _ => none
theorem ji_range1 {fs : En → Option (List PyData × En)} (h : PI X tg e (iRng1 (tJs X.K fs))) (hl : ∀ G r, fs G = some r → r.1.length = 1) : JI X tg e (diRange fs) := pi_im h fun σ H R w => by
  obtain ⟨B, F, G, ds, G', Rr, e0, k⟩ := w
  obtain ⟨⟨xs, G1⟩, e1, e2⟩ := Option.bind_eq_some_iff.mp e0
  have hl1 := hl _ _ e1
  dsimp only at e2 hl1
  split at e2
  · split at e2
    · rename_i hs
      cases e2
      obtain ⟨h1, h2⟩ := small62_of hs
      refine ⟨B, F, G, _, _, Rr, e1, fun vs F1 H1 R1 s1 q1 => ?_⟩
      obtain ⟨v, rfl, qv⟩ := dq1 q1
      cases qv
      exact ⟨_, rfl, h1, h2, k _ F1 H1 R1 s1 ylds_range⟩
    · cases e2
  · simp at hl1
  · cases e2
theorem ji_range2 {fs : En → Option (List PyData × En)} (h : PI X tg e (iRng2 (tJs X.K fs))) (hl : ∀ G r, fs G = some r → r.1.length = 2) : JI X tg e (diRange fs) := pi_im h fun σ H R w => by
  obtain ⟨B, F, G, ds, G', Rr, e0, k⟩ := w
  obtain ⟨⟨xs, G1⟩, e1, e2⟩ := Option.bind_eq_some_iff.mp e0
  have hl1 := hl _ _ e1
  dsimp only at e2 hl1
  split at e2
  · simp at hl1
  · split at e2
    · rename_i hs
      cases e2
      rw [Bool.and_eq_true] at hs
      obtain ⟨h1, h2⟩ := small62_of hs.1
      obtain ⟨h3, h4⟩ := small62_of hs.2
      refine ⟨B, F, G, _, _, Rr, e1, fun vs F1 H1 R1 s1 q1 => ?_⟩
      obtain ⟨v, w, rfl, qv, qw⟩ := dq2 q1
      cases qv
      cases qw
      exact ⟨_, _, rfl, ⟨h1, h2, h3, h4⟩, k _ F1 H1 R1 s1 ylds_range⟩
    · cases e2
  · cases e2
theorem len_es0 {G : En} {r : List PyData × En} (h : dEs0 G = some r) : r.1.length = 0 := by cases h; rfl
theorem len_esC {f : En → Option (PyData × En)} {g : En → Option (List PyData × En)} {n : Nat} (hg : ∀ G r, g G = some r → r.1.length = n) : ∀ G r, dEsC f g G = some r → r.1.length = n + 1 := fun G r h => by
  obtain ⟨x, e1, e2⟩ := Option.bind_eq_some_iff.mp h
  obtain ⟨y, e3, e4⟩ := Option.bind_eq_some_iff.mp e2
  cases e4
  simp [hg _ _ e3]
/-! zip, enumerate: new pairs -/
def zipD : List PyData → List PyData → List PyData
  | x :: xs, y :: ys => .tuple [x, y] :: zipD xs ys
  | _, _ => []
theorem zipD_len : ∀ (xs ys : List PyData), (zipD xs ys).length = min xs.length ys.length
  | [], ys => by simp [zipD]
  | x :: xs, [] => by simp [zipD]
  | x :: xs, y :: ys => by
    show (zipD xs ys).length + 1 = min (xs.length + 1) (ys.length + 1)
    rw [zipD_len xs ys]
    omega
theorem zipD_get : ∀ {xs ys : List PyData} {i : Nat} {x y : PyData}, xs[i]? = some x → ys[i]? = some y → (zipD xs ys)[i]? = some (.tuple [x, y])
  | [], _, _, _, _, h, _ => by simp at h
  | _ :: _, [], _, _, _, _, h => by simp at h
  | a :: xs, b :: ys, 0, x, y, h, h' => by cases h; cases h'; rfl
  | a :: xs, b :: ys, i + 1, x, y, h, h' => by
    show (zipD xs ys)[i]? = _
    exact zipD_get (by simpa using h) (by simpa using h')
def seqB : PyData → Option (Bool × List PyData)
  | .list xs => some (false, xs)
  | .tuple xs => some (true, xs)
  | _ => none
def diZip (fs : En → Option (List PyData × En)) : En → Option (List PyData × En) := fun G => (fs G).bind fun r => match r.1 with
  | [.list xs, .list ys] => some (zipD xs ys, r.2)
  | [.list xs, .tuple ys] => some (zipD xs ys, r.2)
  | [.tuple xs, .list ys] => some (zipD xs ys, r.2)
  | [.tuple xs, .tuple ys] => some (zipD xs ys, r.2)
  | _ => none
theorem pair_ok {K : PySem.W.Frag} {F1 H1 : Hp} {T : Addr} {v w : V} {x y : PyData} (t : Same F1 H1) (n : H1 T = none) (qx : Dq K F1 v x) (qy : Dq K F1 w y) :
    ∃ F2, Grow F1 H1 F2 (upd H1 T (.tup [v, w])) ∧ Dq K F2 (.ref T) (.tuple [x, y]) := by
  have g := Grow.upd (o := .tup [v, w]) t n
  exact ⟨_, g, .tup (SqT.of upd_same) (.cons (dp_mono g.f qx) (.cons (dp_mono g.f qy) .nil))⟩
theorem sqB_same {K : PySem.W.Frag} {F F1 H1 : Hp} {k : Bool} {a : Addr} {us : List V} (h : match k with | true => SqT K F a us | false => Ls K F a us) (s : Same F F1) (t : Same F1 H1) : SqB K H1 k a us := by
  cases k
  · exact (Same.ls t (Same.ls s h)).sq
  · exact Same.seqT t (Same.seqT s h)
theorem seq_ok {K : PySem.W.Frag} {F : Hp} {v : V} {d : PyData} {k : Bool} {xs : List PyData} (e : seqB d = some (k, xs)) (q : Dq K F v d) : ∃ a us, v = .ref a ∧ (match k with | true => SqT K F a us | false => Ls K F a us) ∧ DqAll K F us xs := by
  cases d with
  | list ds => cases e; cases q with | lst h p => exact ⟨_, _, rfl, h, p⟩
  | tuple ds => cases e; cases q with | tup h p => exact ⟨_, _, rfl, h, p⟩
  | none => cases e
  | bool _ => cases e
  | int _ => cases e
  | str _ => cases e
  | dict _ => cases e
theorem ji_zip {fs : En → Option (List PyData × En)} (h : PI X tg e (iZipM X.K (tJs X.K fs))) : JI X tg e (diZip fs) := pi_im h fun σ H R w => by
  obtain ⟨B, F, G, ds, G', Rr, e0, k⟩ := w
  obtain ⟨⟨ps, G1⟩, e1, e2⟩ := Option.bind_eq_some_iff.mp e0
  have e3 : ∃ d1 d2 k1 k2 xs ys, ps = [d1, d2] ∧ seqB d1 = some (k1, xs) ∧ seqB d2 = some (k2, ys) ∧ ds = zipD xs ys ∧ G1 = G' := by
    dsimp only at e2
    split at e2
    · cases e2; exact ⟨_, _, _, _, _, _, rfl, rfl, rfl, rfl, rfl⟩
    · cases e2; exact ⟨_, _, _, _, _, _, rfl, rfl, rfl, rfl, rfl⟩
    · cases e2; exact ⟨_, _, _, _, _, _, rfl, rfl, rfl, rfl, rfl⟩
    · cases e2; exact ⟨_, _, _, _, _, _, rfl, rfl, rfl, rfl, rfl⟩
    · cases e2
  obtain ⟨d1, d2, k1, k2, xs, ys, rfl, c1, c2, rfl, rfl⟩ := e3
  refine ⟨B, F, G, _, _, Rr, e1, fun vs F1 H1 R1 s1 q1 => ?_⟩
  obtain ⟨v, w, rfl, qv, qw⟩ := dq2 q1
  obtain ⟨a, us, rfl, sa, pa⟩ := seq_ok c1 qv
  obtain ⟨b, ws, rfl, sb, pb⟩ := seq_ok c2 qw
  refine ⟨a, b, k1, k2, us, ws, rfl, sqB_same sa (.refl F1) R1.same, sqB_same sb (.refl F1) R1.same, k _ F1 H1 R1 s1 ⟨fun i F2 H2 s t hi => ?_, fun i F2 H2 H3 x s t y hi => ?_, fun i F2 H2 s t hi => ?_⟩⟩
  · rw [zipD_len] at hi
    have hu : i < us.length := by rw [dp_len pa]; omega
    have hw : i < ws.length := by rw [dp_len pb]; omega
    exact ⟨us, ws, us[i], ws[i], sqB_same sa s t, sqB_same sb s t, List.getElem?_eq_getElem hu, List.getElem?_eq_getElem hw⟩
  · obtain ⟨T, x1, x2, rfl, n, rfl, f1, f2⟩ := y
    obtain ⟨d1, g1, p1⟩ := dp_getV pa (f1 _ (sqB_same sa s t))
    obtain ⟨d2, g2, p2⟩ := dp_getV pb (f2 _ (sqB_same sb s t))
    obtain ⟨F3, g, q⟩ := pair_ok t n (dp_mono s p1) (dp_mono s p2)
    exact ⟨F3, _, zipD_get g1 g2, g, q⟩
  · rw [zipD_len] at hi
    have l1 := dp_len pa
    have l2 := dp_len pb
    exact ⟨us, ws, sqB_same sa s t, sqB_same sb s t, by omega, by omega, by omega⟩
def enumD : Nat → List PyData → List PyData
  | _, [] => []
  | n, x :: xs => .tuple [.int (n : Nat), x] :: enumD (n + 1) xs
theorem enumD_len : ∀ (n : Nat) (xs : List PyData), (enumD n xs).length = xs.length
  | _, [] => rfl
  | n, x :: xs => by simp [enumD, enumD_len (n + 1) xs]
theorem enumD_get : ∀ {n : Nat} {xs : List PyData} {i : Nat} {x : PyData}, xs[i]? = some x → (enumD n xs)[i]? = some (.tuple [.int ((n + i : Nat) : Int), x])
  | _, [], _, _, h => by simp at h
  | n, a :: xs, 0, x, h => by cases h; rfl
  | n, a :: xs, i + 1, x, h => by
    show (enumD (n + 1) xs)[i]? = _
    rw [enumD_get (n := n + 1) (by simpa using h), show n + 1 + i = n + (i + 1) by omega]
def diEnum (fs : En → Option (List PyData × En)) : En → Option (List PyData × En) := fun G => (fs G).bind fun r => match r.1 with
  | [.list xs] => some (enumD 0 xs, r.2)
  | [.tuple xs] => some (enumD 0 xs, r.2)
  | _ => none
theorem ji_enum {fs : En → Option (List PyData × En)} (h : PI X tg e (iEnumM X.K (tJs X.K fs))) : JI X tg e (diEnum fs) := pi_im h fun σ H R w => by
  obtain ⟨B, F, G, ds, G', Rr, e0, k⟩ := w
  obtain ⟨⟨ps, G1⟩, e1, e2⟩ := Option.bind_eq_some_iff.mp e0
  have e3 : ∃ d1 k1 xs, ps = [d1] ∧ seqB d1 = some (k1, xs) ∧ ds = enumD 0 xs ∧ G1 = G' := by
    dsimp only at e2
    split at e2
    · cases e2; exact ⟨_, _, _, rfl, rfl, rfl, rfl⟩
    · cases e2; exact ⟨_, _, _, rfl, rfl, rfl, rfl⟩
    · cases e2
  obtain ⟨d1, k1, xs, rfl, c1, rfl, rfl⟩ := e3
  refine ⟨B, F, G, _, _, Rr, e1, fun vs F1 H1 R1 s1 q1 => ?_⟩
  obtain ⟨v, rfl, qv⟩ := dq1 q1
  obtain ⟨a, us, rfl, sa, pa⟩ := seq_ok c1 qv
  refine ⟨a, k1, us, rfl, sqB_same sa (.refl F1) R1.same, k _ F1 H1 R1 s1 ⟨fun i F2 H2 s t hi => ?_, fun i F2 H2 H3 x s t y hi => ?_, fun i F2 H2 s t hi => ?_⟩⟩
  · rw [enumD_len] at hi
    have hu : i < us.length := by rw [dp_len pa]; omega
    exact ⟨us, us[i], sqB_same sa s t, List.getElem?_eq_getElem hu⟩
  · obtain ⟨T, x1, rfl, n, rfl, f1⟩ := y
    obtain ⟨d1, g1, p1⟩ := dp_getV pa (f1 _ (sqB_same sa s t))
    obtain ⟨F3, g, q⟩ := pair_ok t n (.int _) (dp_mono s p1)
    exact ⟨F3, _, by rw [enumD_get g1, Nat.zero_add], g, q⟩
  · rw [enumD_len] at hi
    exact ⟨us, sqB_same sa s t, by rw [dp_len pa]; exact hi⟩
/-! the signs of a text -/
def diStr (f : En → Option (PyData × En)) : En → Option (List PyData × En) := fun G => (f G).bind fun r => match r.1 with
  | .str z => some (z.cps.toList.map fun c => .str ⟨#[c]⟩, r.2)
  | _ => none
theorem ji_str {f : En → Option (PyData × En)} (h : JE X e f) : JI X tg e (diStr f) := pi_im (pi_str h) fun σ H R w => by
  obtain ⟨B, F, G, ds, G', Rr, e0, k⟩ := w
  obtain ⟨⟨d, G1⟩, e1, e2⟩ := Option.bind_eq_some_iff.mp e0
  dsimp only at e2
  split at e2
  · rename_i z
    cases e2
    refine ⟨B, F, G, _, _, Rr, e1, fun v F1 H1 R1 s1 q1 => ?_⟩
    cases q1
    refine ⟨z, rfl, k _ F1 H1 R1 s1 (ylds_of (fun i F2 H2 s t hi => ?_) (fun i F2 H2 H3 x s t y hi => ?_) (fun i F2 H2 s t hi => ?_))⟩
    · rw [List.length_map, Array.length_toList] at hi
      exact hi
    · obtain ⟨rfl, c, ec, rfl⟩ := y
      refine ⟨F2, .str ⟨#[c]⟩, ?_, .refl t, .str _⟩
      rw [List.getElem?_map, Array.getElem?_toList, ec]
      rfl
    · rw [List.length_map, Array.length_toList] at hi
      exact hi
  · cases e2
end

/-! ### for -/
def loopFor (gt : PyData → En → Option En) (body : En → Option (Fl × En)) : List PyData → En → Option (Fl × En)
  | [], G => some (.nx, G)
  | d :: ds, G => (gt d G).bind fun G1 => (body G1).bind fun r => match r.1 with
    | .nx => loopFor gt body ds r.2
    | .cont => loopFor gt body ds r.2
    | .brk => some (.nx, r.2)
    | .ret x => some (.ret x, r.2)
def dFor (gi : En → Option (List PyData × En)) (gt : PyData → En → Option En) (body : En → Option (Fl × En)) : En → Option (Fl × En) := fun G => (gi G).bind fun r => loopFor gt body r.1 r.2
section
variable {X : Cx} {tg iter c : Expr} {bd : List Stmt} {pos : Pos}
theorem js_for {gi : En → Option (List PyData × En)} {gt : PyData → En → Option En} {f : En → Option (Fl × En)} (hp : PassesOwn (model X.prog X.w) X.A X.env X.xe) (hc : X.calm = true) (hi : JI X tg iter gi) {vs : List Nat} (hg : JG X vs tg gt) (hb : JSs X bd f)
    (hs : ∀ x, foldedSetIterable iter X.env x = pure x := by intro _; rfl) : JS X (.For tg iter bd [] pos) (dFor gi gt f) := ps_im (ps_for hp hc hi hg hb hs) fun D σ H ⟨B, F, G, fl, G', R, e, k⟩ => by
  obtain ⟨⟨ds, G1⟩, e1, e2⟩ := Option.bind_eq_some_iff.mp e
  refine ⟨B, F, G, ds, G1, R, e1, fun J F1 H1 R1 s1 y => ?_⟩
  refine ⟨fun i m σ2 H2 => i ≤ ds.length ∧ m = ds.length - i ∧ ∃ F2 G2, Rp X.K B G2 σ2 F2 H2 ∧ Same F1 F2 ∧ loopFor gt f (ds.drop i) G2 = some (fl, G'), ⟨ds.length, Nat.zero_le _, by omega, F1, G1, R1, .refl F1, e2⟩, ?_⟩
  rintro i m σ2 H2 ⟨hi, rfl, F2, G2, R2, s2, e3⟩
  by_cases hlt : i < ds.length
  · refine .inr ⟨y.go i F2 H2 s2 R2.same hlt, fun σ3 H3 => ∃ F3 G3, Rp X.K B G3 σ3 F3 H3 ∧ Same F1 F3 ∧ loopFor gt f (ds.drop (i + 1)) G3 = some (fl, G'), fun σ3 H3 ⟨F3, G3, R3, s3, e4⟩ => ⟨ds.length - (i + 1), by omega, by omega, rfl, F3, G3, R3, s3, e4⟩, fun x H3 yy => ?_⟩
    obtain ⟨F3, d, ed, g, q⟩ := y.yld i F2 H2 H3 x s2 R2.same yy hlt
    have ed' : ds.drop i = d :: ds.drop (i + 1) := by
      rw [List.drop_eq_getElem_cons hlt]
      rw [List.getElem?_eq_getElem hlt] at ed
      cases ed
      rfl
    rw [ed'] at e3
    obtain ⟨G3, e5, e6⟩ := Option.bind_eq_some_iff.mp e3
    obtain ⟨⟨fl1, G4⟩, e7, e8⟩ := Option.bind_eq_some_iff.mp e6
    refine ⟨B, F3, G2, d, G3, R2.grow g, q, e5, fun σ4 F4 H4 R4 s4 _ => ⟨B, F4, G3, fl1, G4, R4, e7, ?_⟩⟩
    have s5 : Same F1 F4 := (s2.trans g.f).trans s4
    cases fl1 with
    | nx => exact fun σ5 F5 H5 R5 s6 => ⟨F5, G4, R5, s5.trans s6, e8⟩
    | cont => exact fun σ5 F5 H5 R5 s6 => ⟨F5, G4, R5, s5.trans s6, e8⟩
    | brk =>
      cases e8
      exact fun σ5 F5 H5 R5 s6 => k σ5 F5 H5 R5 ((s1.trans s5).trans s6)
    | ret r =>
      cases e8
      exact fun v σ5 F5 H5 R5 s6 => k v σ5 F5 H5 R5 ((s1.trans s5).trans s6)
  · refine .inl ⟨y.stop i F2 H2 s2 R2.same (by omega), ?_⟩
    rw [List.drop_eq_nil_of_le (by omega)] at e3
    cases e3
    exact k σ2 F2 H2 R2 (s1.trans s2)
/-! ### while -/
def loopW (t : En → Option (Bool × En)) (body : En → Option (Fl × En)) : Nat → En → Option (Fl × En)
  | 0, _ => none
  | n + 1, G => (t G).bind fun r => if r.1 = true then (body r.2).bind fun q => match q.1 with
    | .nx => loopW t body n q.2
    | .cont => loopW t body n q.2
    | .brk => some (.nx, q.2)
    | .ret x => some (.ret x, q.2)
    else some (.nx, r.2)
def dWhile (n : Nat) (t : En → Option (Bool × En)) (body : En → Option (Fl × En)) : En → Option (Fl × En) := fun G => loopW t body n G
theorem js_while (n : Nat) {t : En → Option (Bool × En)} {f : En → Option (Fl × En)} (hp : PassesOwn (model X.prog X.w) X.A X.env X.xe) (hc : JT X c t) (hb : JSs X bd f) : JS X (.While c bd [] pos) (dWhile n t f) := ps_im (ps_while hp hc hb) fun D σ H ⟨B, F, G, fl, G', R, e, k⟩ => by
  refine ⟨fun m σ2 H2 => ∃ F2 G2, Rp X.K B G2 σ2 F2 H2 ∧ Same F F2 ∧ loopW t f m G2 = some (fl, G'), ⟨n, F, G, R, .refl F, e⟩, ?_⟩
  rintro m σ2 H2 ⟨F2, G2, R2, s2, e2⟩
  cases m with
  | zero => cases e2
  | succ m =>
    obtain ⟨⟨b, G3⟩, e3, e4⟩ := Option.bind_eq_some_iff.mp e2
    refine ⟨B, F2, G2, b, G3, R2, e3, fun F3 H3 R3 s3 => ?_⟩
    cases b with
    | false =>
      rw [if_neg Bool.false_ne_true] at e4 ⊢
      cases e4
      exact k σ2 F3 H3 R3 (s2.trans s3)
    | true =>
      rw [if_pos rfl] at e4 ⊢
      obtain ⟨⟨fl1, G4⟩, e5, e6⟩ := Option.bind_eq_some_iff.mp e4
      refine ⟨fun σ5 H5 => ∃ F5, Rp X.K B G4 σ5 F5 H5 ∧ Same F F5 ∧ loopW t f m G4 = some (fl, G'), fun σ5 H5 ⟨F5, R5, s5, e7⟩ => ⟨m, by omega, F5, G4, R5, s5, e7⟩, B, F3, G3, fl1, G4, R3, e5, ?_⟩
      cases fl1 with
      | nx => exact fun σ5 F5 H5 R5 s5 => ⟨F5, R5, (s2.trans s3).trans s5, e6⟩
      | cont => exact fun σ5 F5 H5 R5 s5 => ⟨F5, R5, (s2.trans s3).trans s5, e6⟩
      | brk =>
        cases e6
        exact fun σ5 F5 H5 R5 s5 => k σ5 F5 H5 R5 ((s2.trans s3).trans s5)
      | ret r =>
        cases e6
        exact fun v σ5 F5 H5 R5 s5 => k v σ5 F5 H5 R5 ((s2.trans s3).trans s5)
end

/-! ### comprehensions -/
def wipeG (G : En) : List Nat → En
  | [] => G
  | v :: vs => (wipeG G vs).set v .un
/-- the slots as they stood, as far as they held data -/
def backG (G0 : En) (G : En) : List Nat → En
  | [] => G
  | v :: vs => match G0[v]? with
    | some (.dat d) => (backG G0 G vs).set v (.dat d)
    | _ => (backG G0 G vs).set v .un
def loopLc (vs : List Nat) (gt : PyData → En → Option En) (tt : En → Option (Bool × En)) (te : En → Option (PyData × En)) : List PyData → En → Option (List PyData × En)
  | [], G => some ([], G)
  | d :: ds, G => (gt d G).bind fun G1 => (tt G1).bind fun r => if r.1 = true then (te r.2).bind fun q => (loopLc vs gt tt te ds (wipeG q.2 vs)).bind fun z => some (q.1 :: z.1, z.2)
    else loopLc vs gt tt te ds (wipeG r.2 vs)
def dLc (vs : List Nat) (gi : En → Option (List PyData × En)) (gt : PyData → En → Option En) (tt : En → Option (Bool × En)) (te : En → Option (PyData × En)) : En → Option (List PyData × En) := fun G =>
  (gi G).bind fun r => if r.1.length ≤ big then (loopLc vs gt tt te r.1 (wipeG r.2 vs)).bind fun z => some (z.1, backG r.2 z.2 vs) else none
def dYes : En → Option (Bool × En) := fun G => some (true, G)
section
variable {K : PySem.W.Frag} {B : Bs} {G G0 : En} {σ : L2.St} {F H : Hp}
theorem wipe_cong {σ σ' : L2.St} : ∀ {vs : List Nat}, wipe σ vs = wipe σ' vs → ∀ i, i ∉ vs → σ[i]? = σ'[i]? := fun {vs} h i hi => by
  rw [← wipe_out (σ := σ) hi, ← wipe_out (σ := σ') hi, h]
theorem wipe_len_eq {σ σ' : L2.St} {vs : List Nat} (h : wipe σ vs = wipe σ' vs) : σ.length = σ'.length := by
  rw [← wipe_length σ vs, ← wipe_length σ' vs, h]
theorem wipeG_len (G : En) : ∀ vs : List Nat, (wipeG G vs).length = G.length
  | [] => rfl
  | v :: vs => by unfold wipeG; rw [List.length_set, wipeG_len G vs]
theorem wipeG_in {G : En} {i : Nat} {x : Sl} : ∀ {vs : List Nat}, (wipeG G vs)[i]? = some x → (i ∈ vs ∧ x = .un) ∨ (i ∉ vs ∧ G[i]? = some x)
  | [], h => .inr ⟨by simp, h⟩
  | v :: vs, h => by
    unfold wipeG at h
    by_cases hv : v = i
    · subst hv
      exact .inl ⟨List.mem_cons_self, (set_at h).2⟩
    · rw [List.getElem?_set_ne hv] at h
      rcases wipeG_in h with ⟨a, b⟩ | ⟨a, b⟩
      · exact .inl ⟨List.mem_cons_of_mem _ a, b⟩
      · exact .inr ⟨fun z => (List.mem_cons.mp z).elim (fun w => hv w.symm) a, b⟩
theorem backG_len (G0 G : En) : ∀ vs : List Nat, (backG G0 G vs).length = G.length
  | [] => rfl
  | v :: vs => by
    unfold backG
    split <;> rw [List.length_set, backG_len G0 G vs]
theorem backG_in {G0 G : En} {i : Nat} {x : Sl} : ∀ {vs : List Nat}, (backG G0 G vs)[i]? = some x → (i ∈ vs ∧ (x = .un ∨ ∃ d, x = .dat d ∧ G0[i]? = some (.dat d))) ∨ (i ∉ vs ∧ G[i]? = some x)
  | [], h => .inr ⟨by simp, h⟩
  | v :: vs, h => by
    unfold backG at h
    by_cases hv : v = i
    · subst hv
      split at h
      · rename_i d ed
        exact .inl ⟨List.mem_cons_self, .inr ⟨d, (set_at h).2, ed⟩⟩
      · exact .inl ⟨List.mem_cons_self, .inl (set_at h).2⟩
    · have h' : (backG G0 G vs)[i]? = some x := by
        split at h <;> (rw [List.getElem?_set_ne hv] at h; exact h)
      rcases backG_in h' with ⟨a, b⟩ | ⟨a, b⟩
      · exact .inl ⟨List.mem_cons_of_mem _ a, b⟩
      · exact .inr ⟨fun z => (List.mem_cons.mp z).elim (fun w => hv w.symm) a, b⟩
/-- other slots, where what is told of them is forgotten -/
theorem Rp.rewipe (R : Rp K B G σ F H) {σ' : L2.St} {vs : List Nat} (h : wipe σ' vs = wipe σ vs) : Rp K B (wipeG G vs) σ' F H := by
  have same : ∀ i, i ∉ vs → σ'[i]? = σ[i]? := wipe_cong h
  have hl : σ'.length = σ.length := wipe_len_eq h
  have own : ∀ {i : Nat} {io : Bool} {ds : List PyData}, (wipeG G vs)[i]? = some (.own io ds) → i ∉ vs ∧ G[i]? = some (.own io ds) := fun {i io ds} e => by
    rcases wipeG_in e with ⟨_, z⟩ | z
    · cases z
    · exact z
  refine ⟨by rw [hl, R.len, wipeG_len], R.same, fun i x e => ?_, fun i io ds a e1 e2 => ?_, fun i j io jo ds es a e1 e2 e3 e4 => ?_, R.keep, R.alive, R.fnew⟩
  · have hi : i < σ'.length := by
      have := (List.getElem?_eq_some_iff.mp e).1
      rw [wipeG_len] at this
      rw [hl, R.len]
      exact this
    rcases wipeG_in e with ⟨_, rfl⟩ | ⟨ni, e'⟩
    · exact ⟨σ'[i], List.getElem?_eq_getElem hi, trivial⟩
    · obtain ⟨y, ey, ok⟩ := R.slot i x e'
      exact ⟨y, by rw [same i ni]; exact ey, ok⟩
  · obtain ⟨ni, e'⟩ := own e1
    rw [same i ni] at e2
    exact R.born i io ds a e' e2
  · obtain ⟨ni, e1'⟩ := own e1
    obtain ⟨nj, e2'⟩ := own e2
    rw [same i ni] at e3
    rw [same j nj] at e4
    exact R.dist i j io jo ds es a e1' e2' e3 e4
/-- behind the block: the slots of its own names hold what they held -/
theorem Rp.unwipe {F0 H0 : Hp} (R0 : Rp K B G0 σ F0 H0) {vs : List Nat} (R : Rp K B G (wipe σ vs) F H) (s : Same F0 F) : Rp K B (backG G0 G vs) σ F H := by
  have same : ∀ i, i ∉ vs → (wipe σ vs)[i]? = σ[i]? := fun i hi => wipe_out hi
  have own : ∀ {i : Nat} {io : Bool} {ds : List PyData}, (backG G0 G vs)[i]? = some (.own io ds) → i ∉ vs ∧ G[i]? = some (.own io ds) := fun {i io ds} e => by
    rcases backG_in e with ⟨_, z | ⟨d, z, _⟩⟩ | z
    · cases z
    · cases z
    · exact z
  refine ⟨by rw [backG_len, ← R.len, wipe_length], R.same, fun i x e => ?_, fun i io ds a e1 e2 => ?_, fun i j io jo ds es a e1 e2 e3 e4 => ?_, R.keep, R.alive, R.fnew⟩
  · have hi : i < σ.length := by
      have := (List.getElem?_eq_some_iff.mp e).1
      rw [backG_len, ← R.len, wipe_length] at this
      exact this
    rcases backG_in e with ⟨_, rfl | ⟨d, rfl, ed⟩⟩ | ⟨ni, e'⟩
    · exact ⟨σ[i], List.getElem?_eq_getElem hi, trivial⟩
    · obtain ⟨v, ev, q⟩ := R0.dat ed
      exact ⟨_, ev, v, rfl, dp_mono s q⟩
    · obtain ⟨y, ey, ok⟩ := R.slot i x e'
      exact ⟨y, by rw [← same i ni]; exact ey, ok⟩
  · obtain ⟨ni, e'⟩ := own e1
    rw [← same i ni] at e2
    exact R.born i io ds a e' e2
  · obtain ⟨ni, e1'⟩ := own e1
    obtain ⟨nj, e2'⟩ := own e2
    rw [← same i ni] at e3
    rw [← same j nj] at e4
    exact R.dist i j io jo ds es a e1' e2' e3 e4
theorem loopLc_len {vs : List Nat} {gt : PyData → En → Option En} {tt : En → Option (Bool × En)} {te : En → Option (PyData × En)} : ∀ {ds : List PyData} {G : En} {zs : List PyData} {G' : En}, loopLc vs gt tt te ds G = some (zs, G') → zs.length ≤ ds.length
  | [], G, zs, G', e => by cases e; exact Nat.le_refl _
  | d :: ds, G, zs, G', e => by
    unfold loopLc at e
    obtain ⟨G1, e1, e⟩ := Option.bind_eq_some_iff.mp e
    obtain ⟨⟨b, G2⟩, e2, e⟩ := Option.bind_eq_some_iff.mp e
    cases b with
    | true =>
      rw [if_pos rfl] at e
      obtain ⟨⟨y, G3⟩, e3, e⟩ := Option.bind_eq_some_iff.mp e
      obtain ⟨⟨ys, G4⟩, e4, e⟩ := Option.bind_eq_some_iff.mp e
      cases e
      have := loopLc_len e4
      simp only [List.length_cons]
      omega
    | false =>
      rw [if_neg Bool.false_ne_true] at e
      have := loopLc_len e
      simp only [List.length_cons]
      omega
end
theorem wipe_wipe (σ : L2.St) (vs : List Nat) : wipe (wipe σ vs) vs = wipe σ vs := by
  refine List.ext_getElem? fun k => ?_
  rw [wipe_get, wipe_get, wipe_length]
  by_cases hk : k ∈ vs
  · rw [if_pos hk, if_pos hk]
  · rw [if_neg hk]
/-- what a comprehension's reading asks, by data -/
theorem lc_read {K : PySem.W.Frag} {vs : List Nat} {gi : En → Option (List PyData × En)} {gt : PyData → En → Option En} {tt : En → Option (Bool × En)} {te : En → Option (PyData × En)}
    {σ : L2.St} {H : Hp} {Q : VK} (h : tN K (dLc vs gi gt tt te) σ H Q) : tLc (tI K gi) (tG K vs gt) (tT K tt) (tJ K te) vs σ H Q := by
  obtain ⟨B, F, G, zs, G', R, e, k⟩ := h
  obtain ⟨⟨ds, G1⟩, e1, e⟩ := Option.bind_eq_some_iff.mp e
  dsimp only at e
  split at e
  · rename_i hbig
    obtain ⟨⟨zs', G2⟩, e2, e⟩ := Option.bind_eq_some_iff.mp e
    cases e
    refine ⟨B, F, G, ds, G1, R, e1, fun J F1 H1 R1 s1 y => fun D nD => ?_⟩
    have Rw : Rp K B (wipeG G1 vs) (wipe σ vs) F1 H1 := R1.rewipe (wipe_wipe σ vs)
    -- the invariant: the block's base is the heap as it stands at each turn
    refine ⟨fun i m H2 => i ≤ ds.length ∧ m = ds.length - i ∧ ∃ F2 G3 acc us ys, Rp K B G3 (wipe σ vs) F2 H2 ∧ Same F1 F2 ∧ F2 D = none ∧ H2 D = some (.lst us) ∧ DqAll K F2 us acc ∧ B.h0 D = none ∧ (∀ j, ¬ Owns G3 (wipe σ vs) j D) ∧ acc.length ≤ i ∧
      loopLc vs gt tt te (ds.drop i) G3 = some (ys, G2) ∧ zs' = acc ++ ys, ⟨ds.length, Nat.zero_le _, by omega, F1, wipeG G1 vs, [], [], zs', Rw.lay nD, .refl F1, R1.same.free nD, upd_same, .nil, R1.newFree nD, Rw.newOwn nD, Nat.le_refl _, e2, rfl⟩, ?_⟩
    rintro i m H2 ⟨hi, rfl, F2, G3, acc, us, ys, R2, s2, nF, lD, qD, hD0, hoD, hacc, e3, ez⟩
    by_cases hlt : i < ds.length
    · refine .inr ⟨y.go i F2 H2 s2 R2.same hlt, fun H3 => ∃ F3 G4 acc us ys, Rp K B G4 (wipe σ vs) F3 H3 ∧ Same F1 F3 ∧ F3 D = none ∧ H3 D = some (.lst us) ∧ DqAll K F3 us acc ∧ (∀ j, ¬ Owns G4 (wipe σ vs) j D) ∧ acc.length ≤ i + 1 ∧
        loopLc vs gt tt te (ds.drop (i + 1)) G4 = some (ys, G2) ∧ zs' = acc ++ ys, fun H3 ⟨F3, G4, acc', us', ys', a1, a2, a3, a4, a5, a6, a7, a8, a9⟩ => ⟨ds.length - (i + 1), by omega, by omega, rfl, F3, G4, acc', us', ys', a1, a2, a3, a4, a5, hD0, a6, a7, a8, a9⟩, fun x H3 yy => ?_⟩
      obtain ⟨F3, d, ed, g, q⟩ := y.yld i F2 H2 H3 x s2 R2.same yy hlt
      have ed' : ds.drop i = d :: ds.drop (i + 1) := by
        rw [List.drop_eq_getElem_cons hlt]
        rw [List.getElem?_eq_getElem hlt] at ed
        cases ed
        rfl
      rw [ed'] at e3
      obtain ⟨G4, e5, e6⟩ := Option.bind_eq_some_iff.mp e3
      obtain ⟨⟨b, G5⟩, e7, e8⟩ := Option.bind_eq_some_iff.mp e6
      have R3 := R2.grow g
      have lD3 : H3 D = some (.lst us) := g.h _ _ lD
      have nF3 : F3 D = none := by
        cases z : F3 D with
        | none => rfl
        | some o =>
          rcases g.new D o z with w | w
          · rw [nF] at w; cases w
          · rw [lD] at w; cases w
      -- behind anything that runs over the heap as it stands, the new list is as it was
      have still : ∀ {G6 : En} {σ6 : L2.St} {F6 H6 : Hp}, Rp K (B.now G3 (wipe σ vs) F3 H3) G6 σ6 F6 H6 → H6 D = some (.lst us) ∧ F6 D = none := fun {G6 σ6 F6 H6} R6 => by
        refine ⟨R6.keep D _ lD3 fun ⟨j, hj⟩ => hoD j hj, ?_⟩
        cases z : F6 D with
        | none => rfl
        | some o =>
          rcases R6.fnew D o z with w | w | ⟨j, hj⟩
          · have w' : F3 D = some o := w
            rw [nF3] at w'; cases w'
          · have w' : H3 D = none := w
            rw [lD3] at w'; cases w'
          · exact absurd hj (hoD j)
      have noD : ∀ {G6 : En} {σ6 : L2.St} {F6 H6 : Hp}, Rp K (B.now G3 (wipe σ vs) F3 H3) G6 σ6 F6 H6 → ∀ j, ¬ Owns G6 σ6 j D := fun {G6 σ6 F6 H6} R6 j ⟨⟨io, es, h1⟩, ej⟩ => by
        rcases R6.born j io es D h1 ej with w | ⟨j', hj'⟩
        · have w' : H3 D = none := w
          rw [lD3] at w'; cases w'
        · exact hoD j' hj'
      refine ⟨_, F3, G3, d, G4, R3.now, q, e5, fun σ4 F4 H4 R4 s4 w4 => ⟨w4.trans (wipe_wipe σ vs), _, F4, G4, b, G5, R4, e7, fun F5 H5 R5 s5 => ?_⟩⟩
      have w4' : wipe (wipe σ vs) vs = wipe σ4 vs := w4.symm
      cases b with
      | true =>
        rw [if_pos rfl] at e8
        refine iteT ?_
        obtain ⟨⟨z, G6⟩, e9, e10⟩ := Option.bind_eq_some_iff.mp e8
        obtain ⟨⟨ys', G7⟩, e11, e12⟩ := Option.bind_eq_some_iff.mp e10
        cases e12
        refine ⟨_, F5, G5, z, G6, R5, e9, fun v F6 H6 R6 s6 q6 => ?_⟩
        obtain ⟨l6, n6⟩ := still R6
        have sF : Same F3 F6 := (s4.trans s5).trans s6
        have lu : us.length < sizeLine := by
          rw [dp_len qD]
          exact Nat.lt_of_le_of_lt hacc (Nat.lt_of_lt_of_le hlt (big_le hbig))
        have R7 : Rp K B (wipeG G6 vs) (wipe σ vs) F6 H6 := (R3.back R6).rewipe w4'
        have noD7 : ∀ j, ¬ Owns (wipeG G6 vs) (wipe σ vs) j D := fun j ⟨⟨io, es, h1⟩, ej⟩ => by
          rcases wipeG_in h1 with ⟨_, zz⟩ | ⟨nj, h2⟩
          · cases zz
          · refine noD R6 j ⟨⟨io, es, h2⟩, ?_⟩
            rw [← ej, wipe_cong (show wipe σ4 vs = wipe σ vs from w4.trans (wipe_wipe σ vs)) j nj, wipe_out nj]
        have sFD : ∀ o, F6 D ≠ some o := fun o zz => by rw [n6] at zz; cases zz
        refine ⟨us, l6, lu, F6, wipeG G6 vs, acc ++ [z], us ++ [v], ys', ?_, (s2.trans g.f).trans sF, n6, upd_same, dp_app (dpAll_mono (g.f.trans sF) qD) (.cons q6 .nil), noD7, by simp; omega, e11, by rw [ez]; simp⟩
        -- the new list grows
        refine ⟨R7.len, fun bb x e => ?_, fun ii x e => ?_, R7.born, R7.dist, fun aa x e hn => ?_, fun aa ha zz => ?_, R7.fnew⟩
        · rw [upd_ne (fun zz => by subst zz; exact sFD _ e)]
          exact R7.same _ _ e
        · obtain ⟨yy, ey, ok⟩ := R7.slot ii x e
          refine ⟨yy, ey, ?_⟩
          cases x with
          | un => trivial
          | dat d => exact ok
          | own io es =>
            obtain ⟨aa, vs', e1', pa, nf, l, q'⟩ := ok
            refine ⟨aa, vs', e1', pa, nf, ?_, q'⟩
            rw [upd_ne (fun zz => by subst zz; exact noD7 ii ⟨⟨io, es, e⟩, by rw [ey, e1']⟩)]
            exact l
        · by_cases had : aa = D
          · subst had
            rw [hD0] at e; cases e
          · rw [upd_ne had]
            exact R7.keep aa x e hn
        · by_cases had : aa = D
          · subst had
            rw [upd_same] at zz; cases zz
          · rw [upd_ne had] at zz
            exact R7.alive aa ha zz
      | false =>
        rw [if_neg Bool.false_ne_true] at e8
        refine iteF ?_
        obtain ⟨l6, n6⟩ := still R5
        have sF : Same F3 F5 := s4.trans s5
        have R7 : Rp K B (wipeG G5 vs) (wipe σ vs) F5 H5 := (R3.back R5).rewipe w4'
        have noD7 : ∀ j, ¬ Owns (wipeG G5 vs) (wipe σ vs) j D := fun j ⟨⟨io, es, h1⟩, ej⟩ => by
          rcases wipeG_in h1 with ⟨_, zz⟩ | ⟨nj, h2⟩
          · cases zz
          · refine noD R5 j ⟨⟨io, es, h2⟩, ?_⟩
            rw [← ej, wipe_cong (show wipe σ4 vs = wipe σ vs from w4.trans (wipe_wipe σ vs)) j nj, wipe_out nj]
        exact ⟨F5, wipeG G5 vs, acc, us, ys, R7, (s2.trans g.f).trans sF, n6, l6, dpAll_mono (g.f.trans sF) qD, noD7, by omega, e8, ez⟩
    · refine .inl ⟨y.stop i F2 H2 s2 R2.same (by omega), ?_⟩
      rw [List.drop_eq_nil_of_le (by omega)] at e3
      cases e3
      rw [List.append_nil] at ez
      subst ez
      refine k D us F2 H2 (R1.unwipe R2 s2) (s1.trans s2) nF lD qD hD0 fun j ⟨⟨io, es, h1⟩, ej⟩ => ?_
      rcases backG_in h1 with ⟨_, zz | ⟨d, zz, _⟩⟩ | ⟨nj, h2⟩
      · cases zz
      · cases zz
      · exact hoD j ⟨⟨io, es, h2⟩, by rw [wipe_out nj]; exact ej⟩
  · cases e
section
variable {X : Cx} {tg iter elt : Expr} {pos p : Pos}
theorem jt_yes : PTs X [] (tT X.K dYes) := ⟨fun pins s σ H Q I h => by
  obtain ⟨B, F, G, b, G', R, e, k⟩ := h
  cases e
  exact (pts_nil (X := X)).run pins s σ H Q I (k F H R (.refl F))⟩
theorem jt_ifs {c : Expr} {f : En → Option (Bool × En)} (h : JT X c f) : PTs X [c] (tT X.K f) := pts_one h
theorem jn_lc {ifs : List Expr} {scope : Scope} {own : List (Str × Nat)} {gi : En → Option (List PyData × En)} {gt : PyData → En → Option En} {tt : En → Option (Bool × En)} {te : En → Option (PyData × En)} (hc : X.calm = true) (hN : X.N.Nodup) (hi : JI X tg iter gi) (ok : BlkOk X.N X.env.scope scope own)
    (hg : ∀ (s : Shared) (H : Hp) (C : Addr) (cl : List (Str × Addr)) (fp : List Addr), JG (X.blk s H scope (compEnvC scope cl C X.env) fp) (own.map (·.2)) tg gt)
    (ht : ∀ (s : Shared) (H : Hp) (C : Addr) (cl : List (Str × Addr)) (fp : List Addr), PTs (X.blk s H scope (compEnvC scope cl C X.env) fp) ifs (tT X.K tt))
    (he : ∀ (s : Shared) (H : Hp) (C : Addr) (cl : List (Str × Addr)) (fp : List Addr), JE (X.blk s H scope (compEnvC scope cl C X.env) fp) elt te) (hs : ∀ x, foldedSetIterable iter X.env x = pure x := by intro _; rfl) :
    JN X (.ListComp elt [⟨tg, iter, ifs, 0⟩] scope pos) (dLc (own.map (·.2)) gi gt tt te) := pe_im (pe_lc hc hN hi ok hg ht he hs) fun _ _ _ h => lc_read h
theorem ps_lcN {i : Nat} {y : Str} {py spos : Pos} {ifs : List Expr} {scope : Scope} {own : List (Str × Nat)} {gi : En → Option (List PyData × En)} {gt : PyData → En → Option En} {tt : En → Option (Bool × En)} {te : En → Option (PyData × En)} (hc : X.calm = true) (hN : X.N.Nodup) (hy : X.N[i]? = some y) (hyl : X.env.scope.names.lookup y = some .local)
    (hsw : swapsWith (.ListComp elt [⟨tg, iter, ifs, 0⟩] scope pos) (some (.Name y py)) spos.line X.env = pure true) (hi : JI X tg iter gi) (ok : BlkOk X.N X.env.scope scope own)
    (hg : ∀ (s : Shared) (H : Hp) (C : Addr) (cl : List (Str × Addr)) (fp : List Addr), JG (X.blk s H scope (compEnvC scope cl C X.env) fp) (own.map (·.2)) tg gt)
    (ht : ∀ (s : Shared) (H : Hp) (C : Addr) (cl : List (Str × Addr)) (fp : List Addr), PTs (X.blk s H scope (compEnvC scope cl C X.env) fp) ifs (tT X.K tt))
    (he : ∀ (s : Shared) (H : Hp) (C : Addr) (cl : List (Str × Addr)) (fp : List Addr), JE (X.blk s H scope (compEnvC scope cl C X.env) fp) elt te) (hs : ∀ x, foldedSetIterable iter X.env x = pure x := by intro _; rfl) :
    PS X (.Assign [.Name y py] (.ListComp elt [⟨tg, iter, ifs, 0⟩] scope pos) spos) (tAsg (tN X.K (dLc (own.map (·.2)) gi gt tt te)) (gName i)) := ps_im (ps_setLc hc hN hy hyl hsw hi ok hg ht he hs) fun D σ H h => lc_read h
/-- .. the list frozen -/
theorem ps_fzN {st : Stmt} {i : Nat} {f : En → Option (List PyData × En)} (h : PS X st (tAsg (tN X.K f) (gName i))) : PS X st (tAsg (tJ X.K (dFz f)) (gName i)) := ps_im h fun D σ H h => by
  obtain ⟨B, F, G, d, G', R, e, k⟩ := h
  obtain ⟨⟨ds, G1⟩, e1, e2⟩ := Option.bind_eq_some_iff.mp e
  cases e2
  refine ⟨B, F, G, ds, _, R, e1, fun p ws F1 H1 R1 s1 n l q hb ho => ?_⟩
  have s2 : Same F1 (upd F1 p (.lst ws)) := same_upd n
  exact k _ _ _ (R1.frzNew n l ho (.inl hb)) (s1.trans s2) (.lst (Ls.of upd_same) (dpAll_mono s2 q))
end
end Jd
/-! Jd: defs, their promises as functions on data, calls; repr; the law's end. -/
namespace Jd
open PySem PySem.Spec PyProof.Rows L2
/-! ### a def's promise where nobody's repr is under way -/
structure FnG (P : Program) (w : World) (K : PySem.W.Frag) (mg : Str → Option Value) (base : Heap) (k : Nat) (f : Addr) (fd : FuncData) (ps : List Str) (sp : Sp) : Prop where
  len : ∀ vs H Q E, sp vs H Q E → vs.length = ps.length
  run : ∀ (A : Around) (outer : List Env) (s : Shared) (H : Hp) (args : Args) (us : List Value) (vs : List V) (Q : VK), A.guards = some [] → Room k A → Env0 P w K mg base A outer s H → BindsTo s fd args (ps.zip us) → Vals vs us → sp vs H Q E0 →
    codeAny (model P w) A (.call (.ref f) args) (CR CX0 outer P w H s Q E0) s
theorem FnG.mono {P : Program} {w : World} {K : PySem.W.Frag} {mg : Str → Option Value} {base : Heap} {j k : Nat} {f : Addr} {fd : FuncData} {ps : List Str} {sp : Sp} (F : FnG P w K mg base j f fd ps sp) (h : j ≤ k) : FnG P w K mg base k f fd ps sp :=
  ⟨F.len, fun A outer s H args us vs Q hg hr => F.run A outer s H args us vs Q hg (hr.mono h)⟩
/-- a def by its body -/
theorem fnG_of {P : Program} {w : World} {K : PySem.W.Frag} {mg : Str → Option Value} {base : Heap} {k : Nat} {f : Addr} {nm qual : Str} {pars : Arguments} {body : List Stmt} {sc : Scope} {dV kV doc pm cdv ct oc : Value} {an od : Option Addr}
    {osl : Array (Option Value)} {N ps : List Str} {sp : Sp} (lk : K.lookup f = some ⟨oc, od, .func (PySem.W.fnOf nm qual pars body sc dV kV doc pm an cdv ct), osl⟩) (hcd : PySem.W.codeIn K cdv qual = true) (S : FnScope N ps sc)
    (len : ∀ vs H Q E, sp vs H Q E → vs.length = ps.length)
    (hb : ∀ (A : Around) (outer : List Env) (s : Shared) (H : Hp) (vs : List V) (Q : VK), A.guards = some [] → Room k (A.deeper (envOfC qual sc s.heap.objs.size f cdv)) → sp vs H Q E0 →
      ∃ t, PSs (cxOf CX0 P w K mg base N qual sc f cdv A outer s H E0) body t ∧ t { nx := fun _ H' => Q .non H', rt := Q } (L2.start N vs) H) :
    FnG P w K mg base (k + 1) f (PySem.W.fnOf nm qual pars body sc dV kV doc pm an cdv ct) ps sp := by
  refine ⟨len, fun A outer s H args us vs Q hg hr e0 bnd rel hsp => ?_⟩
  have inK : K.In s.heap := e0.mod.kin.keeps fun b o z => (e0.bs b o z).1
  have nolim : s.heap.NoLimit := e0.mod.nolimit.keeps fun b o z => (e0.bs b o z).1
  have kinds : ∀ y ∈ ps.zip us, sc.names.lookup y.1 = some .local ∨ (sc.names.lookup y.1 = some .cell ∧ ((cellsFrom (s.heap.objs.size + 1) sc.names []).lookup y.1).isSome = true) := by
    rintro ⟨x, v⟩ hy
    rcases S.par x (List.of_mem_zip hy).1 with z | z
    · exact .inl z
    · exact .inr ⟨z, PySem.W.cellsFrom_some _ _ _ (.inl z)⟩
  refine codeAny_call_function hr.depth (inK _ _ lk) rfl S.co S.gen rfl (PySem.W.codeRec_of inK hcd) (bnd _ _ _ _ ?_)
  refine wpAny_newFunctionEnv_cells S.kind kinds fun env eqn s1 entered => ?_
  subst eqn
  refine ⟨nolim.keeps entered.toInCall.keep, codeAny_func ?_⟩
  obtain ⟨t, ht, q⟩ := hb A outer s H vs Q hg (hr.deeper _) hsp
  have I0 : Inv (cxOf CX0 P w K mg base N qual sc f cdv A outer s H E0) [] (L2.start N vs) H s1 := inv_start S hr.hd e0 (len _ _ _ _ hsp) rel entered
  refine wpAny_mono (ht.run [] s1 (L2.start N vs) H _ I0 q) (fun fl s' z => ?_) fun e s' z => z
  cases fl with
  | ret u =>
    obtain ⟨v, σ', H', J, rv, q'⟩ := z
    exact ⟨v, H', J.os, J.bare, J.base, J.hok, rv, q'⟩
  | next =>
    obtain ⟨σ', H', J, q'⟩ := z
    exact ⟨V.non, H', J.os, J.bare, J.base, J.hok, rfl, q'⟩
  | brk =>
    obtain ⟨_, _, _, q'⟩ := z
    exact q'.elim
  | cont =>
    obtain ⟨_, _, _, q'⟩ := z
    exact q'.elim
theorem funG {P : Program} {w : World} {K : PySem.W.Frag} {mg : Str → Option Value} {base : Heap} {k : Nat} {x qual : Str} {pars : Arguments} {body : List Stmt} {sc : Scope} {dvs : List V} {kws : List (Str × V)} {f : Addr} {fd : FuncData} {N ps : List Str} {sp : Sp}
    (F : FunD K x qual pars body sc dvs kws f fd) (S : FnScope N ps sc) (len : ∀ vs H Q E, sp vs H Q E → vs.length = ps.length)
    (hb : ∀ (cdv : Value) (A : Around) (outer : List Env) (s : Shared) (H : Hp) (vs : List V) (Q : VK), A.guards = some [] → Room k (A.deeper (envOfC qual sc s.heap.objs.size f cdv)) → sp vs H Q E0 →
      ∃ t, PSs (cxOf CX0 P w K mg base N qual sc f cdv A outer s H E0).nox body t ∧ t { nx := fun _ H' => Q .non H', rt := Q } (L2.start N vs) H) : FnG P w K mg base (k + 1) f fd ps sp := by
  obtain ⟨oc, od, dV, kV, doc, pm, an, cdv, ct, osl, rfl, lk, hcd, _, _⟩ := F.ex
  refine fnG_of lk hcd S len fun A outer s H vs Q hg hr hsp => ?_
  obtain ⟨t, h, q⟩ := hb cdv A outer s H vs Q hg hr hsp
  exact ⟨t, h.nox, q⟩
section
variable {X : Cx} {k : Nat} {f : Addr} {fd : FuncData} {ps ks : List Str} {sp : Sp} {x : Str} {p pos kpos : Pos} {e : Expr} {es : List Expr} {kws : List Keyword} {ta tk : TA} {nm : Option Str}
theorem run_G {pins : List (Addr × Obj)} {σ : L2.St} {H : Hp} {s : Shared} {Q : VK} {us ws : List Value} {vs : List V} {kw : List (Str × Value)} (F : FnG X.prog X.w X.K X.mg X.base k f fd ps sp) (hg : X.A.guards = some []) (hr : Room k X.A) (hb : BindsTo s fd ⟨us, kw⟩ (ps.zip ws))
    (I : Inv X pins σ H s) (r : Vals vs ws) (h : sp vs H Q E0) : wpAny (model X.prog X.w) X.A (call (.ref f) us kw) (EP X pins σ Q) X.xe s := by
  refine wpAny_call (codeAny_mono (F.run X.A X.stack s H ⟨us, kw⟩ ws vs Q hg hr I.env0 hb r h) fun res s' z => ?_)
  cases res with
  | error err => exact z.elim
  | ok fl =>
    cases fl with
    | ret u => exact I.after z
    | next => exact z.elim
    | brk => exact z.elim
    | cont => exact z.elim
/-- f(e, ..) -/
theorem pe_callG (F : FnG X.prog X.w X.K X.mg X.base k f fd ps sp) (hg : X.A.guards = some []) (hr : Room k X.A) (hx : Gl X x) (hm : X.mg x = some (.ref f)) (hk : PySem.W.keepIn X.K (.ref f) = true) (hb : Binds X.K fd ps [])
    (ha : PA X (e :: es) ta) (hdb : (x == ("__debug__" : Str)) = false := by decide) (he : starEach (e :: es) X.env = (false, eval e X.env) :: starEach es X.env := by rfl) (hpl : (backTo pos (starEach es X.env)).any (·.1) = false := by rfl) :
    PE X (.Call (.Name x p) (e :: es) [] pos) (fun σ H Q => ta σ H fun vs H1 => sp vs H1 Q E0) := by
  refine ⟨fun pins s σ H Q I h => ?_⟩
  refine wpAny_Call_Name_kw (ld_glob I hx hm ?_ hdb)
  refine PySem.W.callWith_K (h₀ := X.base) I.ok.mod.kin hk (thn (ha.run pos pins s σ H _ I h) fun us s1 ⟨vs, H1, I1, r, q⟩ => ⟨I1.kIn, ?_⟩) he hpl
  have hl : us.length = ps.length := by rw [← r.length]; exact F.len _ _ _ _ q
  have hb' := hb s1 us I1.kIn (by rw [List.append_nil]; exact hl)
  rw [List.append_nil] at hb'
  exact run_G F hg hr hb' I1 r q
/-- f() -/
theorem pe_callG0 (F : FnG X.prog X.w X.K X.mg X.base k f fd ps sp) (hg : X.A.guards = some []) (hr : Room k X.A) (hx : Gl X x) (hm : X.mg x = some (.ref f)) (hk : PySem.W.keepIn X.K (.ref f) = true) (hb : Binds X.K fd ps [])
    (hdb : (x == ("__debug__" : Str)) = false := by decide) : PE X (.Call (.Name x p) [] [] pos) (fun σ H Q => sp [] H Q E0) := by
  refine ⟨fun pins s σ H Q I h => ?_⟩
  refine wpAny_Call_Name_kw (ld_glob I hx hm ?_ hdb)
  refine PySem.W.callWith_K0 I.kIn hk ?_
  have hl : ([] : List Value).length = ps.length := F.len _ _ _ _ h
  have hb' := hb s [] I.kIn hl
  exact run_G (us := []) (vs := []) F hg hr hb' I .nil h
/-- the parameters' values out of positional ones and keywords', by their places -/
def pick {α : Type} (d : α) (ix : List Nat) (l : List α) : List α := ix.map fun i => l.getD i d
theorem vals_getD : ∀ {vs : List V} {us : List Value} (i : Nat), Vals vs us → RelV (vs.getD i .non) (us.getD i .none)
  | [], [], i, .nil => by simp; rfl
  | v :: vs, u :: us, 0, .cons r _ => by simpa using r
  | v :: vs, u :: us, i + 1, .cons _ t => by simpa using vals_getD i t
theorem vals_pick {vs : List V} {us : List Value} (r : Vals vs us) : ∀ ix : List Nat, Vals (pick .non ix vs) (pick .none ix us)
  | [] => .nil
  | i :: ix => .cons (vals_getD i r) (vals_pick r ix)
theorem dq_getD {K : PySem.W.Frag} {F : Hp} : ∀ {vs : List V} {ds : List PyData} (i : Nat), DqAll K F vs ds → Dq K F (vs.getD i .non) (ds.getD i .none)
  | _, _, i, .nil => by simp; exact .non
  | _, _, 0, .cons r _ => by simpa using r
  | _, _, i + 1, .cons _ t => by simpa using dq_getD i t
theorem dq_pick {K : PySem.W.Frag} {F : Hp} {vs : List V} {ds : List PyData} (r : DqAll K F vs ds) : ∀ ix : List Nat, DqAll K F (pick .non ix vs) (pick .none ix ds)
  | [] => .nil
  | i :: ix => .cons (dq_getD i r) (dq_pick r ix)
/-- how a call with n positional values and the keywords ks binds -/
def BindsK (fd : FuncData) (ps ks : List Str) (n : Nat) (ix : List Nat) : Prop := ∀ (s : Shared) (us ws : List Value), us.length = n → ws.length = ks.length → BindsTo s fd ⟨us, ks.zip ws⟩ (ps.zip (pick .none ix (us ++ ws)))
theorem pe_callGK {n : Nat} {ix : List Nat} (F : FnG X.prog X.w X.K X.mg X.base k f fd ps sp) (hg : X.A.guards = some []) (hr : Room k X.A) (hx : Gl X x) (hm : X.mg x = some (.ref f)) (hk : PySem.W.keepIn X.K (.ref f) = true) (hb : BindsK fd ps ks n ix)
    (ha : PA X (e :: es) ta) (hkw : PK X kws tk) (hall : (backToKw pos (keywordEach kws X.env)).all (·.1.isSome) = true := by rfl) (hks : (backToKw pos (keywordEach kws X.env)).filterMap (·.1) = ks := by rfl)
    (hdb : (x == ("__debug__" : Str)) = false := by decide) (he : starEach (e :: es) X.env = (false, eval e X.env) :: starEach es X.env := by rfl)
    (hpl : ((backTo pos (starEach (e :: es) X.env)).any (·.1) || (backToKw pos (keywordEach kws X.env)).any (·.1.isNone)) = false := by rfl) :
    PE X (.Call (.Name x p) (e :: es) kws pos) (fun σ H Q => ta σ H fun vs H1 => tk σ H1 fun zs H2 => vs.length = n ∧ zs.length = ks.length ∧ sp (pick .non ix (vs ++ zs)) H2 Q E0) := by
  refine ⟨fun pins s σ H Q I h => ?_⟩
  refine wpAny_Call_Name_kw (ld_glob I hx hm ?_ hdb)
  refine PySem.W.callWith_KW (h₀ := X.base) I.ok.mod.kin hk hall (thn (ha.run pos pins s σ H _ I h) fun us s1 ⟨vs, H1, I1, r, q⟩ => ?_) hpl he
  refine thn (hkw.run pos pins s1 σ H1 _ I1 q) fun ws s2 ⟨zs, H2, I2, rz, l1, l2, q2⟩ => ⟨I2.kIn, ?_⟩
  rw [hks]
  exact run_G F hg hr (hb s2 us ws (by rw [← r.length]; exact l1) (by rw [← rz.length]; exact l2)) I2 (vals_pick (r.append rz) ix) q2
theorem pe_callGK0 {ix : List Nat} (F : FnG X.prog X.w X.K X.mg X.base k f fd ps sp) (hg : X.A.guards = some []) (hr : Room k X.A) (hx : Gl X x) (hm : X.mg x = some (.ref f)) (hk : PySem.W.keepIn X.K (.ref f) = true) (hb : BindsK fd ps ks 0 ix)
    (hkw : PK X kws tk) (hall : (backToKw pos (keywordEach kws X.env)).all (·.1.isSome) = true := by rfl) (hks : (backToKw pos (keywordEach kws X.env)).filterMap (·.1) = ks := by rfl)
    (hdb : (x == ("__debug__" : Str)) = false := by decide) (hpl : ((backTo pos (starEach [] X.env)).any (·.1) || (backToKw pos (keywordEach kws X.env)).any (·.1.isNone)) = false := by rfl) :
    PE X (.Call (.Name x p) [] kws pos) (fun σ H Q => tk σ H fun zs H2 => zs.length = ks.length ∧ sp (pick .non ix zs) H2 Q E0) := by
  refine ⟨fun pins s σ H Q I h => ?_⟩
  refine wpAny_Call_Name_kw (ld_glob I hx hm ?_ hdb)
  refine PySem.W.callWith_KW0 (h₀ := X.base) I.ok.mod.kin hk hall (thn (hkw.run pos pins s σ H _ I h) fun ws s2 ⟨zs, H2, I2, rz, l2, q2⟩ => ⟨I2.kIn, ?_⟩) hpl
  rw [hks]
  have hb' := hb s2 [] ws rfl (by rw [← rz.length]; exact l2)
  exact run_G (us := []) F hg hr hb' I2 (vals_pick rz ix) q2
end

/-! ### promises by functions on data -/
def RvNew (K : PySem.W.Frag) (F' H H' : Hp) (v : V) : Rv → Prop
  | .dat d => Dq K F' v d
  | .new ds => ∃ a ws, v = .ref a ∧ H a = none ∧ F' a = none ∧ H' a = some (.lst ws) ∧ DqAll K F' ws ds
/-- n parameters, all data; the answer's list may be new -/
def spD (K : PySem.W.Frag) (n : Nat) (g : List PyData → Option Rv) : Sp := fun vs H Q _ => ∃ (F : Hp) (ds : List PyData) (r : Rv), Same F H ∧ DqAll K F vs ds ∧ ds.length = n ∧ g ds = some r ∧
  ∀ v F' H', Grow F H F' H' → RvNew K F' H H' v r → Q v H'
/-- the first parameter a list that the def may change -/
def spL (K : PySem.W.Frag) (n : Nat) (g : List PyData → List PyData → Option (Rv × List PyData)) : Sp := fun vs H Q _ => ∃ (F : Hp) (p : Addr) (us ws : List V) (ps ds : List PyData) (r : Rv) (ps' : List PyData),
  vs = .ref p :: ws ∧ Same F H ∧ F p = none ∧ H p = some (.lst us) ∧ DqAll K F us ps ∧ DqAll K F ws ds ∧ ds.length = n ∧ g ps ds = some (r, ps') ∧
  ∀ v F' H' us', Same F F' → Same F' H' → (∀ b o, b ≠ p → H b = some o → H' b = some o) → (∀ b o, F' b = some o → F b = some o ∨ H b = none) → H' p = some (.lst us') → DqAll K F' us' ps' → RvNew K F' H H' v r → Q v H'
theorem spD_len {K : PySem.W.Frag} {n : Nat} {g : List PyData → Option Rv} : ∀ vs H Q E, spD K n g vs H Q E → vs.length = n := fun vs H Q E ⟨F, ds, r, _, q, l, _⟩ => by rw [dp_len q]; exact l
theorem spL_len {K : PySem.W.Frag} {n : Nat} {g : List PyData → List PyData → Option (Rv × List PyData)} : ∀ vs H Q E, spL K n g vs H Q E → vs.length = n + 1 := fun vs H Q E ⟨F, p, us, ws, ps, ds, r, ps', e, _, _, _, _, q, l, _⟩ => by
  rw [e, List.length_cons, dp_len q, l]
/-- the end of a body -/
def endD (r : Fl × En) : Option Rv := match r.1 with
  | .nx => some (.dat .none)
  | .ret x => some x
  | _ => none
def slots (m : Nat) (ds : List PyData) : En := ds.map .dat ++ List.replicate (m - ds.length) .un
/-- what a def reckons; m: how many names it has -/
def runD (m : Nat) (f : En → Option (Fl × En)) : List PyData → Option Rv := fun ds => (f (slots m ds)).bind endD
/-- .. whose first parameter is a list that it may change -/
def runL (m : Nat) (f : En → Option (Fl × En)) : List PyData → List PyData → Option (Rv × List PyData) := fun ps ds => (f (.own true ps :: (ds.map .dat ++ List.replicate (m - (ds.length + 1)) .un))).bind fun r => (endD r).bind fun x => match (r.2[0]? : Option Sl) with
  | some (Sl.own true zs) => some (x, zs)
  | _ => none
section
variable {P : Program} {w : World} {K : PySem.W.Frag} {mg : Str → Option Value} {base : Heap} {k : Nat} {x qual : Str} {pars : Arguments} {body : List Stmt} {sc : Scope} {dvs : List V} {kws : List (Str × V)} {f : Addr} {fd : FuncData} {N ps : List Str}
theorem start_get {vs : List V} {i : Nat} (h : vs.length ≤ N.length) : (L2.start N vs)[i]? = if i < vs.length then (vs[i]?).map some else if i < N.length then some none else none := by
  unfold L2.start
  by_cases hi : i < vs.length
  · rw [List.getElem?_append_left (by simpa using hi), List.getElem?_map, if_pos hi]
  · rw [List.getElem?_append_right (by simpa using hi), List.getElem?_replicate, if_neg hi, List.length_map]
    by_cases hn : i < N.length
    · rw [if_pos hn, if_pos (by omega)]
    · rw [if_neg hn, if_neg (by omega)]
theorem start_len {vs : List V} (h : vs.length ≤ N.length) : (L2.start N vs).length = N.length := by
  unfold L2.start
  rw [List.length_append, List.length_map, List.length_replicate]
  omega
theorem slots_get {m : Nat} {ds : List PyData} {i : Nat} {z : Sl} (e : (slots m ds)[i]? = some z) : (∃ d, ds[i]? = some d ∧ z = .dat d) ∨ (ds.length ≤ i ∧ z = .un) := by
  unfold slots at e
  by_cases hi : i < ds.length
  · rw [List.getElem?_append_left (by simpa using hi), List.getElem?_map] at e
    obtain ⟨d, e1, e2⟩ := Option.map_eq_some_iff.mp e
    exact .inl ⟨d, e1, e2.symm⟩
  · rw [List.getElem?_append_right (by simpa using hi), List.getElem?_replicate] at e
    split at e
    · cases e
      exact .inr ⟨by omega, rfl⟩
    · cases e
/-- at the entry of a body -/
theorem rp_start {F H : Hp} {vs : List V} {ds : List PyData} (s : Same F H) (q : DqAll K F vs ds) (hl : ds.length ≤ N.length) : Rp K ⟨0, fun _ => False, H, F⟩ (slots N.length ds) (L2.start N vs) F H := by
  have lv := dp_len q
  have no : ∀ {i : Nat} {io : Bool} {es : List PyData}, (slots N.length ds)[i]? ≠ some (.own io es) := fun {i io es} e => by
    rcases slots_get e with ⟨d, _, z⟩ | ⟨_, z⟩ <;> cases z
  refine ⟨?_, s, fun i z e => ?_, fun i io es a e => absurd e no, fun i j io jo ds es a e => absurd e no, fun a o e _ => e, fun a h => h.elim, fun a o e => .inl e⟩
  · rw [start_len (by omega)]
    unfold slots
    rw [List.length_append, List.length_map, List.length_replicate]
    omega
  · have hi : i < N.length := by
      have := (List.getElem?_eq_some_iff.mp e).1
      unfold slots at this
      rw [List.length_append, List.length_map, List.length_replicate] at this
      omega
    rcases slots_get e with ⟨d, ed, rfl⟩ | ⟨hd, rfl⟩
    · obtain ⟨v, ev, qv⟩ := dp_get q ed
      refine ⟨some v, ?_, v, rfl, qv⟩
      have hv : i < vs.length := (List.getElem?_eq_some_iff.mp ev).1
      rw [start_get (by omega), if_pos hv, ev]
      rfl
    · refine ⟨none, ?_, trivial⟩
      rw [start_get (by omega), if_neg (by omega), if_pos hi]
theorem grow_of {B : Bs} {G : En} {σ : L2.St} {F H F' H' : Hp} (eB : B = ⟨0, fun _ => False, H, F⟩) (R : Rp K B G σ F' H') (s : Same F F') : Grow F H F' H' := by
  subst eB
  exact ⟨fun a o e => R.keep a o e fun z => z, s, R.same, fun a o e => (R.fnew a o e).elim .inl fun z => z.elim .inr fun z => z.elim⟩
/-- THE RULE: a def whose parameters are data -/
theorem okD {g : En → Option (Fl × En)} (Fn : FunD K x qual pars body sc dvs kws f fd) (S : FnScope N ps sc)
    (hb : ∀ (cdv : Value) (A : Around) (outer : List Env) (s : Shared) (H : Hp), A.guards = some [] → Room k (A.deeper (envOfC qual sc s.heap.objs.size f cdv)) → JSs (cxOf CX0 P w K mg base N qual sc f cdv A outer s H E0).nox body g) :
    FnG P w K mg base (k + 1) f fd ps (spD K ps.length (runD N.length g)) := by
  refine funG Fn S spD_len fun cdv A outer s H vs Q hg hr hsp => ⟨_, hb cdv A outer s H hg hr, ?_⟩
  obtain ⟨F, ds, r, hs, q, hl, e, kk⟩ := hsp
  obtain ⟨⟨fl, G'⟩, e1, e2⟩ := Option.bind_eq_some_iff.mp e
  have hN : ds.length ≤ N.length := by
    have := congrArg List.length S.pre
    rw [List.length_take] at this
    omega
  refine ⟨_, F, _, fl, G', rp_start hs q hN, e1, ?_⟩
  cases fl with
  | nx =>
    cases e2
    exact fun σ' F' H' R s1 => kk _ F' H' (grow_of rfl R s1) .non
  | ret x =>
    cases e2
    refine fun v σ' F' H' R s1 ok _ => kk v F' H' (grow_of rfl R s1) ?_
    cases r with
    | dat d => exact ok
    | new ds' =>
      obtain ⟨a, ws, e3, h0, n, l, q'⟩ := ok
      exact ⟨a, ws, e3, h0.resolve_right fun z => z, n, l, q'⟩
  | brk => cases e2
  | cont => cases e2
/-- THE RULE: a def whose first parameter is a list that it may change -/
theorem okL {n : Nat} {g : En → Option (Fl × En)} (Fn : FunD K x qual pars body sc dvs kws f fd) (S : FnScope N ps sc) (hn : ps.length = n + 1)
    (hb : ∀ (cdv : Value) (A : Around) (outer : List Env) (s : Shared) (H : Hp), A.guards = some [] → Room k (A.deeper (envOfC qual sc s.heap.objs.size f cdv)) → JSs (cxOf CX0 P w K mg base N qual sc f cdv A outer s H E0).nox body g) :
    FnG P w K mg base (k + 1) f fd ps (spL K n (runL N.length g)) := by
  refine funG Fn S (fun vs H Q E h => by rw [hn]; exact spL_len vs H Q E h) fun cdv A outer s H vs Q hg hr hsp => ⟨_, hb cdv A outer s H hg hr, ?_⟩
  obtain ⟨F, p, us, ws, pp, ds, r, pp', rfl, hs, nF, lp, qp, qd, hl, e, kk⟩ := hsp
  obtain ⟨⟨fl, G'⟩, e1, e2⟩ := Option.bind_eq_some_iff.mp e
  obtain ⟨x', e3, e4⟩ := Option.bind_eq_some_iff.mp e2
  dsimp only at e4
  split at e4
  · rename_i pp2 eg
    cases e4
    have hN : ds.length + 1 ≤ N.length := by
      have := congrArg List.length S.pre
      rw [List.length_take] at this
      omega
    have lv := dp_len qd
    have only : ∀ {i : Nat} {io : Bool} {es : List PyData}, (Sl.own true pp :: (ds.map Sl.dat ++ List.replicate (N.length - (ds.length + 1)) Sl.un))[i]? = some (.own io es) → i = 0 ∧ io = true ∧ es = pp := fun {i io es} e => by
      cases i with
      | zero => cases e; exact ⟨rfl, rfl, rfl⟩
      | succ i =>
        have e' : (slots (N.length - 1) ds)[i]? = some (.own io es) := by
          unfold slots
          rw [show N.length - 1 - ds.length = N.length - (ds.length + 1) by omega]
          simpa using e
        rcases slots_get e' with ⟨d, _, z⟩ | ⟨_, z⟩ <;> cases z
    have at0 : (L2.start N (.ref p :: ws))[0]? = some (some (.ref p)) := rfl
    have R0 : Rp K ⟨p, fun a => a = p, H, F⟩ (Sl.own true pp :: (ds.map Sl.dat ++ List.replicate (N.length - (ds.length + 1)) Sl.un)) (L2.start N (.ref p :: ws)) F H := by
      refine ⟨?_, hs, fun i z e => ?_, fun i io es a e ea => ?_, fun i j io jo es zs a h1 h2 _ _ => ?_, fun a o e _ => e, fun a ha => ?_, fun a o e => Or.inl e⟩
      · rw [start_len (by simp; omega)]
        simp
        omega
      · have hi : i < N.length := by
          have := (List.getElem?_eq_some_iff.mp e).1
          simp at this
          omega
        cases i with
        | zero =>
          cases e
          exact ⟨_, at0, p, us, rfl, fun _ => rfl, nF, lp, qp⟩
        | succ i =>
          have e' : (slots (N.length - 1) ds)[i]? = some z := by
            unfold slots
            rw [show N.length - 1 - ds.length = N.length - (ds.length + 1) by omega]
            simpa using e
          rcases slots_get e' with ⟨d, ed, rfl⟩ | ⟨hd, rfl⟩
          · obtain ⟨v, ev, qv⟩ := dp_get qd ed
            refine ⟨some v, ?_, v, rfl, qv⟩
            have hv : i < ws.length := (List.getElem?_eq_some_iff.mp ev).1
            rw [start_get (by simp; omega), if_pos (by simp; omega), List.getElem?_cons_succ, ev]
            rfl
          · refine ⟨none, ?_, trivial⟩
            rw [start_get (by simp; omega), if_neg (by simp; omega), if_pos hi]
      · obtain ⟨rfl, _, _⟩ := only e
        rw [at0] at ea
        cases ea
        exact .inr rfl
      · exact (only h1).1.trans (only h2).1.symm
      · have z : a = p := ha
        rw [z, lp]
        exact fun z => nomatch z
    refine ⟨_, F, _, fl, G', R0, e1, ?_⟩
    have fin : ∀ {σ' : L2.St} {F' H' : Hp} {v : V}, Rp K ⟨p, fun a => a = p, H, F⟩ G' σ' F' H' → Same F F' → RvNew K F' H H' v r → Q v H' := fun {σ' F' H' v} R s1 rv => by
      obtain ⟨a, us', ea, pa, n', l', q'⟩ := R.own eg
      have ha : a = p := pa rfl
      subst ha
      refine kk v F' H' us' s1 R.same (fun b o hb h => R.keep b o h hb) (fun b o h => ?_) l' q' rv
      rcases R.fnew b o h with z | z | z
      · exact .inl z
      · exact .inr z
      · have z' : b = a := z
        subst z'
        rw [n'] at h
        cases h
    cases fl with
    | nx =>
      cases e3
      exact fun σ' F' H' R s1 => fin R s1 .non
    | ret x =>
      cases e3
      refine fun v σ' F' H' R s1 ok own => fin R s1 ?_
      cases r with
      | dat d => exact ok
      | new ds' =>
        obtain ⟨a, ws', e5, h0, n', l', q'⟩ := ok
        refine ⟨a, ws', e5, h0.resolve_right fun z => ?_, n', l', q'⟩
        have z' : a = p := z
        subst z'
        obtain ⟨b, us', eb, pb, _⟩ := R.own eg
        have hb : b = a := pb rfl
        subst hb
        exact own b e5 ⟨ds', rfl⟩ 0 ⟨⟨true, pp', eg⟩, eb⟩
    | brk => cases e3
    | cont => cases e3
  · cases e4
end

/-! ### calls -/
section
variable {X : Cx} {k n : Nat} {f : Addr} {fd : FuncData} {ps ks : List Str} {x : Str} {p pos kpos : Pos} {e : Expr} {es : List Expr} {kws : List Keyword} {nm : Option Str}
def Rv.data : Rv → PyData
  | .dat d => d
  | .new ds => .list ds
def dCall (n : Nat) (g : List PyData → Option Rv) (fs : En → Option (List PyData × En)) : En → Option (PyData × En) := fun G => (fs G).bind fun r => if r.1.length = n then (g r.1).bind fun z => some (z.data, r.2) else none
theorem call_core {K : PySem.W.Frag} {B : Bs} {G : En} {σ : L2.St} {F H : Hp} {vs : List V} {ds : List PyData} {g : List PyData → Option Rv} {z : Rv} {Q : VK} (R : Rp K B G σ F H) (q : DqAll K F vs ds) (hl : ds.length = n) (e : g ds = some z)
    (k : ∀ v F' H', Rp K B G σ F' H' → Same F F' → Dq K F' v z.data → Q v H') : spD K n g vs H Q E0 := by
  refine ⟨F, ds, z, R.same, q, hl, e, fun v F' H' gr rv => ?_⟩
  have R' := R.grow gr
  cases z with
  | dat d => exact k v F' H' R' gr.f rv
  | new zs =>
    obtain ⟨a, ws, rfl, hn, nF, l, q'⟩ := rv
    have s2 : Same F' (upd F' a (.lst ws)) := same_upd nF
    have own : ∀ j, ¬ Owns G σ j a := R.newOwn hn
    exact k _ _ _ (R'.frzNew nF l own (.inl (R.newFree hn))) (gr.f.trans s2) (.lst (Ls.of upd_same) (dpAll_mono s2 q'))
theorem je_call {g : List PyData → Option Rv} {fs : En → Option (List PyData × En)} (h : PE X e (fun σ H Q => tJs X.K fs σ H fun vs H1 => spD X.K n g vs H1 Q E0)) : JE X e (dCall n g fs) := pe_im h fun σ H Q ⟨B, F, G, d, G', R, e, k⟩ => by
  obtain ⟨⟨ds, G1⟩, e1, e2⟩ := Option.bind_eq_some_iff.mp e
  dsimp only at e2
  split at e2
  · rename_i hl
    obtain ⟨z, e3, e4⟩ := Option.bind_eq_some_iff.mp e2
    cases e4
    exact ⟨B, F, G, ds, _, R, e1, fun vs F1 H1 R1 s1 q1 => call_core R1 q1 hl e3 fun v F2 H2 R2 s2 q2 => k v F2 H2 R2 (s1.trans s2) q2⟩
  · cases e2
theorem je_call0 {g : List PyData → Option Rv} (h : PE X e (fun σ H Q => spD X.K 0 g [] H Q E0)) : JE X e (fun G => (g []).bind fun z => some (z.data, G)) := pe_im h fun σ H Q ⟨B, F, G, d, G', R, e, k⟩ => by
  obtain ⟨z, e3, e4⟩ := Option.bind_eq_some_iff.mp e
  cases e4
  exact call_core R .nil rfl e3 k
/-- the answer a new list -/
def dCallN (n : Nat) (g : List PyData → Option Rv) (fs : En → Option (List PyData × En)) : En → Option (List PyData × En) := fun G => (fs G).bind fun r => if r.1.length = n then (g r.1).bind fun z => match z with
  | .new zs => some (zs, r.2)
  | .dat _ => none
  else none
theorem jn_call {g : List PyData → Option Rv} {fs : En → Option (List PyData × En)} (h : PE X e (fun σ H Q => tJs X.K fs σ H fun vs H1 => spD X.K n g vs H1 Q E0)) : JN X e (dCallN n g fs) := pe_im h fun σ H Q ⟨B, F, G, d, G', R, e, k⟩ => by
  obtain ⟨⟨ds, G1⟩, e1, e2⟩ := Option.bind_eq_some_iff.mp e
  dsimp only at e2
  split at e2
  · rename_i hl
    obtain ⟨z, e3, e4⟩ := Option.bind_eq_some_iff.mp e2
    cases z with
    | dat d => cases e4
    | new zs =>
      cases e4
      refine ⟨B, F, G, ds, _, R, e1, fun vs F1 H1 R1 s1 q1 => ⟨F1, ds, _, R1.same, q1, hl, e3, fun v F' H' gr rv => ?_⟩⟩
      obtain ⟨a, ws, rfl, hn, nF, l, q'⟩ := rv
      exact k a ws F' H' (R1.grow gr) (s1.trans gr.f) nF l q' (R1.newFree hn) (R1.newOwn hn)
  · cases e2
/-- by keywords -/
theorem jk_nil {Y : Cx} : PK Y [] (tJs Y.K dEs0) := ⟨fun ps pins s σ H Q I h => by
  obtain ⟨B, F, G, ds, G', R, e, k⟩ := h
  cases e
  exact (pk_nil (X := Y)).run ps pins s σ H Q I (k [] F H R (.refl F) .nil)⟩
theorem jk_cons {fa : En → Option (PyData × En)} {g : En → Option (List PyData × En)} (h : JE X e fa) (hr : PK X kws (tJs X.K g)) : PK X (⟨nm, e, kpos⟩ :: kws) (tJs X.K (dEsC fa g)) := ⟨fun ps pins s σ H Q I w => by
  refine (pk_cons h hr).run ps pins s σ H Q I ?_
  obtain ⟨B, F, G, as, G', R, e, k⟩ := w
  obtain ⟨⟨a, G1⟩, e1, e2⟩ := Option.bind_eq_some_iff.mp e
  obtain ⟨⟨as', G2⟩, e3, e4⟩ := Option.bind_eq_some_iff.mp e2
  cases e4
  exact ⟨B, F, G, a, G1, R, e1, fun v F1 H1 R1 s1 q1 => ⟨B, F1, G1, as', G2, R1, e3, fun vs F2 H2 R2 s2 q2 => k _ F2 H2 R2 (s1.trans s2) (.cons (dp_mono s2 q1) q2)⟩⟩⟩
def dCallK (m m' n : Nat) (ix : List Nat) (g : List PyData → Option Rv) (fs fk : En → Option (List PyData × En)) : En → Option (PyData × En) := fun G => (fs G).bind fun r => (fk r.2).bind fun t => if r.1.length = m ∧ t.1.length = m' ∧ ix.length = n then (g (pick .none ix (r.1 ++ t.1))).bind fun z => some (z.data, t.2) else none
theorem je_callK {m : Nat} {ix : List Nat} {g : List PyData → Option Rv} {fs fk : En → Option (List PyData × En)} (h : PE X e (fun σ H Q => tJs X.K fs σ H fun vs H1 => tJs X.K fk σ H1 fun zs H2 => vs.length = m ∧ zs.length = ks.length ∧ spD X.K n g (pick .non ix (vs ++ zs)) H2 Q E0)) :
    JE X e (dCallK m ks.length n ix g fs fk) := pe_im h fun σ H Q ⟨B, F, G, d, G', R, e, k⟩ => by
  obtain ⟨⟨ds, G1⟩, e1, e2⟩ := Option.bind_eq_some_iff.mp e
  obtain ⟨⟨es, G2⟩, e3, e4⟩ := Option.bind_eq_some_iff.mp e2
  dsimp only at e4
  split at e4
  · rename_i hl
    obtain ⟨z, e5, e6⟩ := Option.bind_eq_some_iff.mp e4
    cases e6
    refine ⟨B, F, G, ds, _, R, e1, fun vs F1 H1 R1 s1 q1 => ⟨B, F1, _, es, _, R1, e3, fun zs F2 H2 R2 s2 q2 => ⟨?_, ?_, ?_⟩⟩⟩
    · rw [dp_len q1]; exact hl.1
    · rw [dp_len q2]; exact hl.2.1
    · exact call_core R2 (dq_pick (dp_app (dpAll_mono s2 q1) q2) ix) (by unfold pick; rw [List.length_map]; exact hl.2.2) e5 fun v F3 H3 R3 s3 q3 => k v F3 H3 R3 ((s1.trans s2).trans s3) q3
  · cases e4
def dCallK0 (m' n : Nat) (ix : List Nat) (g : List PyData → Option Rv) (fk : En → Option (List PyData × En)) : En → Option (PyData × En) := fun G => (fk G).bind fun t => if t.1.length = m' ∧ ix.length = n then (g (pick .none ix t.1)).bind fun z => some (z.data, t.2) else none
theorem je_callK0 {ix : List Nat} {g : List PyData → Option Rv} {fk : En → Option (List PyData × En)} (h : PE X e (fun σ H Q => tJs X.K fk σ H fun zs H2 => zs.length = ks.length ∧ spD X.K n g (pick .non ix zs) H2 Q E0)) :
    JE X e (dCallK0 ks.length n ix g fk) := pe_im h fun σ H Q ⟨B, F, G, d, G', R, e, k⟩ => by
  obtain ⟨⟨es, G2⟩, e3, e4⟩ := Option.bind_eq_some_iff.mp e
  dsimp only at e4
  split at e4
  · rename_i hl
    obtain ⟨z, e5, e6⟩ := Option.bind_eq_some_iff.mp e4
    cases e6
    refine ⟨B, F, G, es, _, R, e3, fun zs F2 H2 R2 s2 q2 => ⟨?_, ?_⟩⟩
    · rw [dp_len q2]; exact hl.1
    · exact call_core R2 (dq_pick q2 ix) (by unfold pick; rw [List.length_map]; exact hl.2) e5 fun v F3 H3 R3 s3 q3 => k v F3 H3 R3 (s2.trans s3) q3
  · cases e4
/-- f(x, ..), x a list of one's own that f may change -/
def dCallL (n : Nat) (g : List PyData → List PyData → Option (Rv × List PyData)) (i : Nat) (fs : En → Option (List PyData × En)) : En → Option (PyData × En) := fun G => if isOwn G[i]? = true then (fs G).bind fun r => match r.2[i]? with
  | some (.own io pp) => if r.1.length = n then (g pp r.1).bind fun z => some (z.1.data, r.2.set i (.own io z.2)) else none
  | _ => none
  else none
theorem je_callL (i : Nat) {g : List PyData → List PyData → Option (Rv × List PyData)} {fs : En → Option (List PyData × En)} (h : PE X e (fun σ H Q => tCons (tVar i) (tJs X.K fs) σ H fun vs H1 => spL X.K n g vs H1 Q E0)) : JE X e (dCallL n g i fs) := pe_im h fun σ H Q ⟨B, F, G, d, G', R, e, k⟩ => by
  unfold dCallL at e
  split at e
  · rename_i ho
    obtain ⟨a, vs0, ea, l0⟩ := R.isOwn ho
    obtain ⟨⟨ds, G1⟩, e1, e2⟩ := Option.bind_eq_some_iff.mp e
    dsimp only at e2
    split at e2
    · rename_i io pp eg
      split at e2
      · rename_i hl
        obtain ⟨⟨z, pp'⟩, e3, e4⟩ := Option.bind_eq_some_iff.mp e2
        cases e4
        refine ⟨_, ea, B, F, G, ds, G1, R, e1, fun vs F1 H1 R1 s1 q1 => ?_⟩
        obtain ⟨b, us, eb, pb, nb, lb, qb⟩ := R1.own eg
        rw [ea] at eb
        cases eb
        refine ⟨F1, a, us, vs, pp, ds, z, pp', rfl, R1.same, nb, lb, qb, q1, hl, e3, fun v F' H' us' sF fh sH new l' q' rv => ?_⟩
        have R' := R1.changeG eg ea sF sH fh new l' q'
        cases z with
        | dat d => exact k v F' H' R' (s1.trans sF) rv
        | new zs =>
          obtain ⟨c, ws, rfl, hn, nF, l, q2⟩ := rv
          have s2 : Same F' (upd F' c (.lst ws)) := same_upd nF
          refine k _ _ _ (R'.frzNew nF l (fun j ⟨⟨jo, zz, h1⟩, ej⟩ => ?_) (.inl (R1.newFree hn))) ((s1.trans sF).trans s2) (.lst (Ls.of upd_same) (dpAll_mono s2 q2))
          by_cases hj : i = j
          · subst hj
            rw [ea] at ej
            cases ej
            rw [lb] at hn
            cases hn
          · rw [List.getElem?_set_ne hj] at h1
            exact R1.newOwn hn j ⟨⟨jo, zz, h1⟩, ej⟩
      · cases e2
    · cases e2
  · cases e
end

end Jd
/-! Jd: isinstance, repr, in, str(int). -/
namespace Jd
open PySem PySem.Spec PyProof.Rows L2
/-! ### isinstance of built-in classes -/
def tyName : PyData → String
  | .none => "NoneType"
  | .bool _ => "bool"
  | .int _ => "int"
  | .str _ => "str"
  | .list _ => "list"
  | .tuple _ => "tuple"
  | .dict _ => "dict"
/-- the classes that are asked for -/
inductive Kd where
  | bool | int | str | list | tuple
def Kd.name : Kd → String
  | .bool => "bool"
  | .int => "int"
  | .str => "str"
  | .list => "list"
  | .tuple => "tuple"
def isK : Kd → PyData → Bool
  | .bool, .bool _ => true
  | .int, .bool _ => true
  | .int, .int _ => true
  | .str, .str _ => true
  | .list, .list _ => true
  | .tuple, .tuple _ => true
  | _, _ => false
def noDict : PyData → Bool
  | .dict _ => false
  | _ => true
theorem isK_kit (k : Kd) (d : PyData) (h : noDict d = true) : kitB (tyName d) k.name = some (isK k d) := by
  cases d <;> first | (cases h; done) | (cases k <;> (simp only [tyName, Kd.name, isK]; decide +kernel))
theorem pk_tyx {K : PySem.W.Frag} {F H : Hp} {v : V} {d : PyData} (s : Same F H) (p : Pk K F H v d) : noDict d = true ∧ TyX K H v (.type (tyName d)) := by
  cases d with
  | none => rw [p.non]; exact ⟨rfl, .base .non⟩
  | bool b => rw [p.bl]; exact ⟨rfl, .base (.bl b)⟩
  | int i => rw [p.int]; exact ⟨rfl, .base (.int i)⟩
  | str z => rw [p.str]; exact ⟨rfl, .base (.str z)⟩
  | list ds =>
    obtain ⟨a, ws, rfl, h, _⟩ := p.lst s
    rcases h with (h | ⟨o, h⟩) | ⟨its, n, h, _⟩
    · exact ⟨rfl, .base (.lst h)⟩
    · exact ⟨rfl, .base (.frz h)⟩
    · exact ⟨rfl, .kList h rfl⟩
  | tuple ds =>
    obtain ⟨a, ws, rfl, h, _⟩ := p.tup s
    rcases h with (h | ⟨o, h⟩) | ⟨o, its, n, h, hc, _⟩
    · exact ⟨rfl, .base (.tup h)⟩
    · exact ⟨rfl, .fTuple h⟩
    · exact ⟨rfl, .kTuple h hc⟩
  | dict kvs =>
    rcases p with p | ⟨_, _, _, _, e, _⟩
    · cases p
    · cases e
def dIsi (ks : List Kd) (fa : En → Option (Ag × En)) : En → Option (PyData × En) := fun G => (fa G).bind fun r => (r.1.get r.2).bind fun x => some (.bool (ks.any fun k => isK k x), r.2)
section
variable {X : Cx} {e : Expr} {p p2 p3 pos pt : Pos} {fa : En → Option (Ag × En)} {T T2 : Str}
theorem pe_ty {n : Str} {T : String} (hg : Gl X n) (hm : X.mg n = none) (hv : bootBuiltins n = some (.type T)) (hn : n ≠ "__name__" := by decide) (hd : (n == ("__debug__" : Str)) = false := by decide) : PE X (.Name n p) (tC (.ty T)) := pe_bltn hg hm hv rfl hn hd
theorem je_isi1 (k : Kd) (h : PE X e (tCB (rIsi X.K) (tCons (tP X.K fa) (tCons (tC (.ty k.name)) tNil)))) : JE X e (dIsi [k] fa) := pe_im h fun σ H Q ⟨B, F, G, d, G', R, e, kk⟩ => by
  obtain ⟨⟨x, G1⟩, e1, e2⟩ := Option.bind_eq_some_iff.mp e
  obtain ⟨dx, e3, e4⟩ := Option.bind_eq_some_iff.mp e2
  cases e4
  refine ⟨B, F, G, x, _, R, e1, fun v F1 H1 R1 s1 q1 => ?_⟩
  obtain ⟨nd, ty⟩ := pk_tyx R1.same (R1.get q1 e3)
  refine ⟨v, .ty k.name, _, _, isK k dx, rfl, .ty _, ty, kit_ty (isK_kit k dx nd), kk _ F1 H1 R1 s1 ?_⟩
  simp only [List.any_cons, List.any_nil, Bool.or_false]
  exact .bl _
theorem je_isi2 (k k2 : Kd) (h : PE X e (tCB (rIsiT X.K) (tCons (tP X.K fa) (tCons (tTup (tCons (tC (.ty k.name)) (tCons (tC (.ty k2.name)) tNil))) tNil)))) : JE X e (dIsi [k, k2] fa) := pe_im h fun σ H Q ⟨B, F, G, d, G', R, e, kk⟩ => by
  obtain ⟨⟨x, G1⟩, e1, e2⟩ := Option.bind_eq_some_iff.mp e
  obtain ⟨dx, e3, e4⟩ := Option.bind_eq_some_iff.mp e2
  cases e4
  refine ⟨B, F, G, x, _, R, e1, fun v F1 H1 R1 s1 q1 => ⟨by show 2 ≤ sizeLine; decide, fun tp nt => ?_⟩⟩
  have R2 := R1.lay (o := .tup [.ty k.name, .ty k2.name]) nt
  obtain ⟨nd, ty⟩ := pk_tyx R2.same (R2.get q1 e3)
  refine ⟨v, tp, _, _, [.type k.name, .type k2.name], _, rfl, upd_same, .cons (.ty _) (.cons (.ty _) .nil), ty, ?_, kk _ F1 _ R2 s1 (.bl _)⟩
  refine kitAny_cons (kit_ty (isK_kit k dx nd)) (fun h1 => kitAny_cons (kit_ty (isK_kit k2 dx nd)) (fun h2 => ?_) fun h2 => ?_) fun h1 => ?_
  · simp only [List.any_cons, List.any_nil, h1, h2]
    exact kitAny_nil
  · simp only [List.any_cons, List.any_nil, h1, h2]
    rfl
  · simp only [List.any_cons, List.any_nil, h1]
    rfl
end
/-! ### repr of lists and tuples -/
mutual
def wt : PyData → Nat
  | .none => 4
  | .bool _ => 5
  | .int i => i.natAbs.log2 + 3
  | .str x => (reprText x).length
  | .list xs => wtAll xs + 2
  | .tuple xs => wtAll xs + 3
  | .dict _ => 0
def wtAll : List PyData → Nat
  | [] => 0
  | x :: xs => wt x + 2 + wtAll xs
end
def reprOk (d : PyData) : Bool := d.showable && decide (d.depth ≤ 40) && decide (wt d ≤ big) && !d.hasDict
theorem textFrom_le : ∀ (ts : List Str) (k : Nat) (acc : Str), (textFrom k acc ts).length ≤ acc.length + piled ts
  | [], k, acc => by show acc.length ≤ acc.length + _; omega
  | t :: r, k, acc => by
    have ih := textFrom_le r (k + 1) (acc ++ (if k > 0 then ", " else "" : String) ++ t)
    have e : (acc ++ (if k > 0 then ", " else "" : String) ++ t).length = acc.length + (if k > 0 then 2 else 0) + t.length := by
      rw [strLen_append, strLen_append]
      split <;> rfl
    show (textFrom (k + 1) _ r).length ≤ _
    rw [piled_cons]
    have d1 : (if k > 0 then 2 else 0 : Nat) ≤ 2 := by split <;> omega
    omega
theorem listText_le (ts : List Str) : (listText ts).length ≤ piled ts + 2 := by
  unfold listText
  rw [strLen_append]
  have h := textFrom_le ts 0 "["
  have e1 : ((("[" : String) : Str)).length = 1 := rfl
  have e2 : ((("]" : String) : Str)).length = 1 := rfl
  omega
theorem tupleText_le (ts : List Str) : (tupleText ts).length ≤ piled ts + 3 := by
  unfold tupleText
  rw [strLen_append, strLen_append]
  have e1 : ((("(" : String) : Str)).length = 1 := rfl
  have e3 : (((if ts.length == 1 then ",)" else ")" : String) : Str)).length ≤ 2 := by split <;> decide
  cases ts with
  | nil =>
    have e4 : (Str.join ", " ([] : List Str)).length = 0 := rfl
    omega
  | cons t r =>
    have h := join_length_add (t :: r) (by simp)
    omega
mutual
theorem shown_le : ∀ d : PyData, d.hasDict = false → d.shown.length ≤ wt d
  | .none, _ => by simp only [PyData.shown, wt]; decide
  | .bool b, _ => by cases b <;> (simp only [PyData.shown, wt]; decide)
  | .int i, _ => by
    simp only [PyData.shown, wt]
    have h := int_text_length_le (a := i) (k := i.natAbs.log2 + 1) (by omega) (by omega)
    have e : (Str.ofString (toString i)).length = (toString i).length := PyProof.Rows.ofString_len _
    show (Str.ofString (toString i)).length ≤ _
    omega
  | .str x, _ => by simp only [PyData.shown, wt]; exact Nat.le_refl _
  | .list xs, h => by
    simp only [PyData.shown, wt]
    have := listText_le (PyData.shownAll xs)
    have := shownAll_le xs (by simpa [PyData.hasDict] using h)
    omega
  | .tuple xs, h => by
    simp only [PyData.shown, wt]
    have := tupleText_le (PyData.shownAll xs)
    have := shownAll_le xs (by simpa [PyData.hasDict] using h)
    omega
  | .dict _, h => by simp [PyData.hasDict] at h
theorem shownAll_le : ∀ xs : List PyData, PyData.hasDictAll xs = false → piled (PyData.shownAll xs) ≤ wtAll xs
  | [], _ => by simp [PyData.shownAll, wtAll, piled]
  | x :: xs, h => by
    rw [PyData.hasDictAll, Bool.or_eq_false_iff] at h
    simp only [PyData.shownAll, wtAll, piled_cons]
    have := shown_le x h.1
    have := shownAll_le xs h.2
    omega
end
def gRepr : List PyData → Option PyData
  | [.list ds] => if reprOk (.list ds) = true then some (.str (PyData.shown (.list ds))) else none
  | [.tuple ds] => if reprOk (.tuple ds) = true then some (.str (PyData.shown (.tuple ds))) else none
  | _ => none
def rRepr (K : PySem.W.Frag) : List V → Hp → VK → Prop := fun vs H Q => ∃ (a : Addr) (d : PyData), vs = [.ref a] ∧ Dp K H (.ref a) d ∧ reprOk d = true ∧ Q (.str d.shown) H
section
variable {X : Cx}
theorem cr_repr (hg : X.A.guards = some []) (hu : X.A.units + 64 < cLine) : CallR X (.builtin "repr") (rRepr X.K) := by
  intro pins s σ H vs us Q I r h
  obtain ⟨a, d, rfl, hd, hok, q⟩ := h
  obtain ⟨u, rfl, ru⟩ := r.one
  have eu : u = Value.ref a := ru
  subst eu
  obtain ⟨as, hr⟩ := Dp.reads I d _ _ hd ru
  unfold reprOk at hok
  simp only [Bool.and_eq_true, decide_eq_true_eq, Bool.not_eq_true'] at hok
  obtain ⟨⟨⟨h1, h2⟩, h3⟩, h4⟩ := hok
  have hsz : d.shown.length ≤ sizeLine := Nat.le_trans (shown_le d h4) (big_le h3)
  refine repr_of_reads' hr h1 (PyData.noDict_hsm h4) hg (by omega) (fun b o e => e) (fun h' t tk kp => ?_) hsz
  exact ⟨.str d.shown, H, I.kept kp, ⟨t, rfl⟩, q⟩
theorem pr_repr : Pr X.K (rRepr X.K) gRepr := by
  intro F H vs ds z Q s p e k
  unfold gRepr at e
  split at e
  · split at e
    · rename_i hok
      cases e
      obtain ⟨v, rfl, px⟩ := pk1 p
      obtain ⟨a, ws, rfl, _⟩ := px.lst s
      exact ⟨a, _, rfl, dq_dp (px.dp s), hok, k _ _ _ (.refl s) (.str _)⟩
    · cases e
  · split at e
    · rename_i hok
      cases e
      obtain ⟨v, rfl, px⟩ := pk1 p
      obtain ⟨a, ws, rfl, _⟩ := px.tup s
      exact ⟨a, _, rfl, dq_dp (px.dp s), hok, k _ _ _ (.refl s) (.str _)⟩
    · cases e
  · cases e
end
/-! ### in -/
def leaf : PyData → Bool
  | .none => true
  | .bool _ => true
  | .int _ => true
  | .str _ => true
  | _ => false
def gIn : PyData → PyData → Option PyData
  | x, .list ds => if SeqAt.shaped x && SeqAt.shaped (.list ds) then some (.bool (ds.any fun z => PyData.eqv z x)) else none
  | x, .tuple ds => if leaf x && ds.all leaf then some (.bool (ds.any fun z => PyData.eqv z x)) else none
  | _, _ => none
def gNotIn : PyData → PyData → Option PyData
  | x, .list ds => if SeqAt.shaped x && SeqAt.shaped (.list ds) then some (.bool (!ds.any fun z => PyData.eqv z x)) else none
  | x, .tuple ds => if leaf x && ds.all leaf then some (.bool (!ds.any fun z => PyData.eqv z x)) else none
  | _, _ => none
section
variable {K : PySem.W.Frag}
theorem leaf_flat {F : Hp} {v : V} {d : PyData} (q : Dq K F v d) (h : leaf d = true) : flatV v = true := by
  cases q <;> first | rfl | cases h
theorem leaf_eqv {F : Hp} {v w : V} {d e : PyData} (q : Dq K F v d) (q' : Dq K F w e) (h : leaf d = true) (h' : leaf e = true) : eqV v w = PyData.eqv d e := by
  cases q <;> cases q' <;> first | rfl | (cases h; done) | (cases h'; done) | (simp [eqV, PyData.eqv])
theorem leaf_all {F : Hp} : ∀ {vs : List V} {ds : List PyData}, DqAll K F vs ds → ds.all leaf = true → vs.all flatV = true
  | _, _, .nil, _ => rfl
  | _, _, .cons q r, h => by
    simp only [List.all_cons, Bool.and_eq_true] at h ⊢
    exact ⟨leaf_flat q h.1, leaf_all r h.2⟩
theorem leaf_in {F : Hp} {v : V} {d : PyData} (q0 : Dq K F v d) (h0 : leaf d = true) : ∀ {vs : List V} {ds : List PyData}, DqAll K F vs ds → ds.all leaf = true → inV v vs = ds.any fun z => PyData.eqv z d
  | _, _, .nil, _ => rfl
  | _, _, .cons q r, h => by
    simp only [List.all_cons, Bool.and_eq_true] at h
    have ih := leaf_in q0 h0 r h.2
    unfold inV at ih ⊢
    simp only [List.any_cons]
    rw [leaf_eqv q q0 h.1 h0, ih]
def rInAll (K : PySem.W.Frag) : R2 := fun x y H Q => rInD K x y H Q ∨ rIn K false x y H Q
def rNotInAll (K : PySem.W.Frag) : R2 := fun x y H Q => rNotInD K x y H Q ∨ rIn K true x y H Q
theorem op_inAll {X : Cx} (hu : X.A.units + 65 < cLine) : OpR X (compareOp .In) (rInAll X.K) := OpR.or (op_inD hu) op_in_seq
theorem op_notInAll {X : Cx} (hu : X.A.units + 65 < cLine) : OpR X (compareOp .NotIn) (rNotInAll X.K) := OpR.or (op_notInD hu) op_notIn_seq
theorem pk_leaf {F H : Hp} {v : V} {d : PyData} (p : Pk K F H v d) (h : leaf d = true) : Dq K F v d := by
  rcases p with p | ⟨_, _, _, _, rfl, _⟩
  · exact p
  · cases h
theorem pr_in : Pr2 K (rInAll K) gIn := by
  intro F H v w x y z Q s p1 p2 e k
  unfold gIn at e
  split at e
  · split at e
    · rename_i h
      rw [Bool.and_eq_true] at h
      cases e
      exact .inl ⟨x, _, dq_dp (p1.dp s), dq_dp (p2.dp s), h.1, h.2, k _ _ _ (.refl s) (.bl _)⟩
    · cases e
  · split at e
    · rename_i h
      rw [Bool.and_eq_true] at h
      cases e
      obtain ⟨a, ws, rfl, h1, q, _⟩ := p2.tup s
      have qx := pk_leaf p1 h.1
      refine .inr ⟨a, ws, rfl, .inr h1, leaf_flat qx h.1, leaf_all q h.2, ?_⟩
      rw [if_neg Bool.false_ne_true, leaf_in qx h.1 q h.2]
      exact k _ _ _ (.refl s) (.bl _)
    · cases e
  · cases e
theorem pr_notIn : Pr2 K (rNotInAll K) gNotIn := by
  intro F H v w x y z Q s p1 p2 e k
  unfold gNotIn at e
  split at e
  · split at e
    · rename_i h
      rw [Bool.and_eq_true] at h
      cases e
      exact .inl ⟨x, _, dq_dp (p1.dp s), dq_dp (p2.dp s), h.1, h.2, k _ _ _ (.refl s) (.bl _)⟩
    · cases e
  · split at e
    · rename_i h
      rw [Bool.and_eq_true] at h
      cases e
      obtain ⟨a, ws, rfl, h1, q, _⟩ := p2.tup s
      have qx := pk_leaf p1 h.1
      refine .inr ⟨a, ws, rfl, .inr h1, leaf_flat qx h.1, leaf_all q h.2, ?_⟩
      rw [if_pos rfl, leaf_in qx h.1 q h.2]
      exact k _ _ _ (.refl s) (.bl _)
    · cases e
  · cases e
end
/-! ### sorted of whole numbers -/
def gSortedN : List PyData → Option (List PyData)
  | [.list ds] => (asInts ds).map fun ns => (ns.mergeSort (fun a b => decide (a ≤ b))).map .int
  | _ => none
theorem sort_same {l l' : List Int} (h : l.Perm l') (s : l.Pairwise (· ≤ ·)) (s' : l'.Pairwise (· ≤ ·)) : l = l' := List.Perm.eq_of_pairwise (fun a b _ _ h1 h2 => Int.le_antisymm h1 h2) s s' h
theorem pr_sortedN {K : PySem.W.Frag} : PrN K (rSortedI K) gSortedN := by
  intro F H vs ds z Q s p e k
  unfold gSortedN at e
  split at e
  · obtain ⟨v, rfl, px⟩ := pk1 p
    obtain ⟨ns, e1, e2⟩ := Option.map_eq_some_iff.mp e
    subst e2
    obtain ⟨a, ws, rfl, h, q⟩ := px.lst s
    rw [asInts_eq e1] at q
    have := dq_ints q
    subst this
    refine ⟨a, ns, rfl, h.sq, fun ns' l hp hs hn => ?_⟩
    have es : ns' = ns.mergeSort (fun a b => decide (a ≤ b)) := by
      refine sort_same (hp.trans (List.mergeSort_perm _ _).symm) hs ?_
      have := List.pairwise_mergeSort (le := fun a b : Int => decide (a ≤ b)) (fun a b c h1 h2 => by simp at *; omega) (fun a b => by simp; omega) ns
      exact this.imp fun h => by simpa using h
    rw [es]
    exact k l _ hn (ints_dq F _)
  · cases e
end Jd
/-! Jd: the law's end, what the top has left, by data. -/
namespace Jd
open PySem PySem.Spec PyProof.Rows L2
/-! ### constants of the module as data -/
def RelD (K : PySem.W.Frag) (u : Value) (d : PyData) : Prop := ∃ v, RelV v u ∧ ∀ F, Dq K F v d
theorem leafB_ok {K : PySem.W.Frag} {u : Value} {d : PyData} (h : leafB u d = true) : RelD K u d := by
  unfold leafB at h
  split at h
  · exact ⟨.non, rfl, fun _ => .non⟩
  · rename_i b c
    rw [eq_of_beq h]
    exact ⟨.bl c, rfl, fun _ => .bl c⟩
  · rename_i i t j
    rw [of_decide_eq_true h]
    exact ⟨.int j, ⟨t, rfl⟩, fun _ => .int j⟩
  · rename_i x t y
    rw [of_decide_eq_true h]
    exact ⟨.str y, ⟨t, rfl⟩, fun _ => .str y⟩
  · cases h
theorem relD_all {K : PySem.W.Frag} : ∀ {us : List Value} {ds : List PyData}, us.length = ds.length → (∀ p ∈ us.zip ds, RelD K p.1 p.2) → ∃ vs, Vals vs us ∧ ∀ F, DqAll K F vs ds
  | [], [], _, _ => ⟨[], .nil, fun _ => .nil⟩
  | [], _ :: _, e, _ => by simp at e
  | _ :: _, [], e, _ => by simp at e
  | u :: us, d :: ds, e, h => by
    obtain ⟨v, r, q⟩ := h (u, d) (by simp)
    obtain ⟨vs, rs, qs⟩ := relD_all (us := us) (ds := ds) (by simpa using e) fun p hp => h p (by simp [hp])
    exact ⟨v :: vs, .cons r rs, fun F => .cons (q F) (qs F)⟩
theorem datB_ok {K : PySem.W.Frag} : ∀ {n : Nat} {u : Value} {d : PyData}, datB K n u d = true → RelD K u d
  | 0, u, d, h => leafB_ok h
  | n + 1, u, d, h => by
    unfold datB at h
    split at h
    · rename_i a ds
      split at h
      · rename_i c od its m sl e
        simp only [Bool.and_eq_true, decide_eq_true_eq, List.all_eq_true] at h
        obtain ⟨hc, hz, hl, ha⟩ := h
        obtain ⟨vs, r, q⟩ := relD_all hl fun p hp => datB_ok (ha p hp)
        refine ⟨.ref a, rfl, fun F => .tup (.inr ⟨_, its, m, e, ?_, rfl, hz, r⟩) (q F)⟩
        exact congrArg Value.type hc
      · cases h
    · exact leafB_ok h
/-- the module's name x holds the datum d -/
def ConD (K : PySem.W.Frag) (mg : Str → Option Value) (x : Str) (d : PyData) : Prop := ∃ u, mg x = some u ∧ RelD K u d
theorem conD_ok {K : PySem.W.Frag} {h : Heap} {mg : Str → Option Value} (X : K.In h) (G : h.Ns mainGlobals mg) {x : Str} {d : PyData} (c : conD K x d = true) : ConD K mg x d := by
  unfold conD at c
  split at c
  · rename_i u e
    exact ⟨u, PySem.W.mg_of X G e, datB_ok c⟩
  · cases c
theorem bltD_ok {K : PySem.W.Frag} {h : Heap} {mg : Str → Option Value} (X : K.In h) (G : h.Ns mainGlobals mg) {x : Str} {id : String} (c : bltD K x id = true) : mg x = some (.builtin id) := by
  unfold bltD at c
  split at c
  · rename_i i e
    rw [← of_decide_eq_true c]
    exact PySem.W.mg_of X G e
  · cases c
section
variable {X : Cx} {x : Str} {pos : Pos} {d : PyData}
theorem je_con (hg : Gl X x) (h : ConD X.K X.mg x d) (hd : (x == ("__debug__" : Str)) = false := by decide) : JE X (.Name x pos) (dC d) := by
  obtain ⟨u, hm, v, r, q⟩ := h
  exact je_glob hg hm r q hd
end
/-! ### a def of the text with its promise -/
structure Ok (P : Program) (w : World) (K : PySem.W.Frag) (mg : Str → Option Value) (base : Heap) (k : Nat) (x fn : Str) (pars : Arguments) (body : List Stmt) (sc : Scope) (ps : List Str) (sp : Sp) : Prop where
  ex : ∃ f fd, mg x = some (.ref f) ∧ FunD K fn fn pars body sc [] [] f fd ∧ Binds K fd ps [] ∧ FnG P w K mg base k f fd ps sp
theorem Ok.mono {P : Program} {w : World} {K : PySem.W.Frag} {mg : Str → Option Value} {base : Heap} {j k : Nat} {x fn : Str} {pars : Arguments} {body : List Stmt} {sc : Scope} {ps : List Str} {sp : Sp} (h : Ok P w K mg base j x fn pars body sc ps sp) (l : j ≤ k) : Ok P w K mg base k x fn pars body sc ps sp := by
  obtain ⟨f, fd, a, b, c, d⟩ := h.ex
  exact ⟨f, fd, a, b, c, d.mono l⟩
theorem Ok.alias {P : Program} {w : World} {K : PySem.W.Frag} {mg : Str → Option Value} {base : Heap} {k : Nat} {x x2 fn : Str} {pars : Arguments} {body : List Stmt} {sc : Scope} {ps : List Str} {sp : Sp} (h : Ok P w K mg base k x fn pars body sc ps sp) (e : mg x2 = mg x) : Ok P w K mg base k x2 fn pars body sc ps sp := by
  obtain ⟨f, fd, a, b, c, d⟩ := h.ex
  exact ⟨f, fd, e.trans a, b, c, d⟩
/-- a def that stands -/
def At (K : PySem.W.Frag) (mg : Str → Option Value) (x fn : Str) (pars : Arguments) (body : List Stmt) (sc : Scope) : Prop := ∃ f fd, mg x = some (.ref f) ∧ FunD K fn fn pars body sc [] [] f fd
section
variable {P : Program} {w : World} {K : PySem.W.Frag} {mg : Str → Option Value} {base : Heap} {k : Nat} {x fn : Str} {pars : Arguments} {body : List Stmt} {sc : Scope} {N ps : List Str}
theorem mkD {g : En → Option (Fl × En)} (a : At K mg x fn pars body sc) (S : FnScope N ps sc) (n : Nat) (hn : ps.length = n)
    (hbd : ∀ (kV doc pm : Value) (an : Option Addr) (cdv ct : Value) (us : List Value), us.length = ps.length → bindArgs (PySem.W.fnOf fn fn pars body sc .none kV doc pm an cdv ct) ⟨us, []⟩ = pure (ps.zip us))
    (hb : ∀ (f : Addr) (cdv : Value) (A : Around) (outer : List Env) (s : Shared) (H : Hp), A.guards = some [] → Room k (A.deeper (envOfC fn sc s.heap.objs.size f cdv)) → JSs (cxOf CX0 P w K mg base N fn sc f cdv A outer s H E0).nox body g) :
    Ok P w K mg base (k + 1) x fn pars body sc ps (spD K n (runD N.length g)) := by
  obtain ⟨f, fd, e, F⟩ := a
  subst hn
  exact ⟨f, fd, e, F, FunD.bindsN F hbd, okD F S (hb f)⟩
theorem mkL {g : En → Option (Fl × En)} (a : At K mg x fn pars body sc) (S : FnScope N ps sc) (n : Nat) (hn : ps.length = n + 1)
    (hbd : ∀ (kV doc pm : Value) (an : Option Addr) (cdv ct : Value) (us : List Value), us.length = ps.length → bindArgs (PySem.W.fnOf fn fn pars body sc .none kV doc pm an cdv ct) ⟨us, []⟩ = pure (ps.zip us))
    (hb : ∀ (f : Addr) (cdv : Value) (A : Around) (outer : List Env) (s : Shared) (H : Hp), A.guards = some [] → Room k (A.deeper (envOfC fn sc s.heap.objs.size f cdv)) → JSs (cxOf CX0 P w K mg base N fn sc f cdv A outer s H E0).nox body g) :
    Ok P w K mg base (k + 1) x fn pars body sc ps (spL K n (runL N.length g)) := by
  obtain ⟨f, fd, e, F⟩ := a
  exact ⟨f, fd, e, F, FunD.bindsN F hbd, okL F S hn (hb f)⟩
end
section
variable {X : Cx} {k j n : Nat} {x fn : Str} {pars : Arguments} {body : List Stmt} {sc : Scope} {ps ks : List Str} {p pos : Pos} {e : Expr} {es : List Expr} {kws : List Keyword}
theorem je_ok {g : List PyData → Option Rv} {fs : En → Option (List PyData × En)} (h : Ok X.prog X.w X.K X.mg X.base j x fn pars body sc ps (spD X.K n g)) (hg : X.A.guards = some []) (hr : Room k X.A) (hx : Gl X x) (ha : JEs X (e :: es) fs) (hj : j ≤ k := by decide)
    (hdb : (x == ("__debug__" : Str)) = false := by decide) (he : starEach (e :: es) X.env = (false, eval e X.env) :: starEach es X.env := by rfl) (hpl : (backTo pos (starEach es X.env)).any (·.1) = false := by rfl) : JE X (.Call (.Name x p) (e :: es) [] pos) (dCall n g fs) := by
  obtain ⟨f, fd, hm, F, B, G⟩ := h.ex
  exact je_call (pe_callG G hg (hr.mono hj) hx hm F.kp B ha hdb he hpl)
theorem jn_ok {g : List PyData → Option Rv} {fs : En → Option (List PyData × En)} (h : Ok X.prog X.w X.K X.mg X.base j x fn pars body sc ps (spD X.K n g)) (hg : X.A.guards = some []) (hr : Room k X.A) (hx : Gl X x) (ha : JEs X (e :: es) fs) (hj : j ≤ k := by decide)
    (hdb : (x == ("__debug__" : Str)) = false := by decide) (he : starEach (e :: es) X.env = (false, eval e X.env) :: starEach es X.env := by rfl) (hpl : (backTo pos (starEach es X.env)).any (·.1) = false := by rfl) : JN X (.Call (.Name x p) (e :: es) [] pos) (dCallN n g fs) := by
  obtain ⟨f, fd, hm, F, B, G⟩ := h.ex
  exact jn_call (pe_callG G hg (hr.mono hj) hx hm F.kp B ha hdb he hpl)
theorem je_okL {y : Str} {p2 : Pos} (i : Nat) {g : List PyData → List PyData → Option (Rv × List PyData)} {fs : En → Option (List PyData × En)} (h : Ok X.prog X.w X.K X.mg X.base j x fn pars body sc ps (spL X.K n g)) (hg : X.A.guards = some []) (hr : Room k X.A) (hx : Gl X x)
    (hv : PE X (.Name y p2) (tVar i)) (ha : JEs X es fs) (hj : j ≤ k := by decide) (hdb : (x == ("__debug__" : Str)) = false := by decide) (he : starEach (.Name y p2 :: es) X.env = (false, eval (.Name y p2) X.env) :: starEach es X.env := by rfl) (hpl : (backTo pos (starEach es X.env)).any (·.1) = false := by rfl) :
    JE X (.Call (.Name x p) (.Name y p2 :: es) [] pos) (dCallL n g i fs) := by
  obtain ⟨f, fd, hm, F, B, G⟩ := h.ex
  exact je_callL i (pe_callG G hg (hr.mono hj) hx hm F.kp B (pa_cons hv ha he) hdb he hpl)
/-- how keywords bind -/
def BK (fn : Str) (pars : Arguments) (body : List Stmt) (sc : Scope) (ps ks : List Str) (n : Nat) (ix : List Nat) : Prop := ∀ (kV doc pm : Value) (an : Option Addr) (cdv ct : Value) (us ws : List Value), us.length = n → ws.length = ks.length →
  bindArgs (PySem.W.fnOf fn fn pars body sc .none kV doc pm an cdv ct) ⟨us, ks.zip ws⟩ = pure (ps.zip (pick .none ix (us ++ ws)))
theorem bindsK_of {K : PySem.W.Frag} {f : Addr} {fd : FuncData} {m : Nat} {ix : List Nat} (F : FunD K fn fn pars body sc [] [] f fd) (h : BK fn pars body sc ps ks m ix) : BindsK fd ps ks m ix := fun s us ws l1 l2 => by
  obtain ⟨oc, od, dV, kV, doc, pm, an, cdv, ct, osl, rfl, lk, hcd, hD, hK⟩ := F.ex
  rcases hD with ⟨_, rfl⟩ | ⟨e, _⟩
  · exact .of_eq (h kV doc pm an cdv ct us ws l1 l2)
  · exact absurd rfl e
theorem je_okK {m : Nat} {ix : List Nat} {g : List PyData → Option Rv} {fs fk : En → Option (List PyData × En)} (h : Ok X.prog X.w X.K X.mg X.base j x fn pars body sc ps (spD X.K n g)) (hg : X.A.guards = some []) (hr : Room k X.A) (hx : Gl X x) (hb : BK fn pars body sc ps ks m ix) (ha : JEs X (e :: es) fs) (hkw : PK X kws (tJs X.K fk)) (hj : j ≤ k := by decide)
    (hall : (backToKw pos (keywordEach kws X.env)).all (·.1.isSome) = true := by rfl) (hks : (backToKw pos (keywordEach kws X.env)).filterMap (·.1) = ks := by rfl)
    (hdb : (x == ("__debug__" : Str)) = false := by decide) (he : starEach (e :: es) X.env = (false, eval e X.env) :: starEach es X.env := by rfl)
    (hpl : ((backTo pos (starEach (e :: es) X.env)).any (·.1) || (backToKw pos (keywordEach kws X.env)).any (·.1.isNone)) = false := by rfl) : JE X (.Call (.Name x p) (e :: es) kws pos) (dCallK m ks.length n ix g fs fk) := by
  obtain ⟨f, fd, hm, F, B, G⟩ := h.ex
  exact je_callK (pe_callGK G hg (hr.mono hj) hx hm F.kp (bindsK_of F hb) ha hkw hall hks hdb he hpl)
theorem je_okK0 {ix : List Nat} {g : List PyData → Option Rv} {fk : En → Option (List PyData × En)} (h : Ok X.prog X.w X.K X.mg X.base j x fn pars body sc ps (spD X.K n g)) (hg : X.A.guards = some []) (hr : Room k X.A) (hx : Gl X x) (hb : BK fn pars body sc ps ks 0 ix) (hkw : PK X kws (tJs X.K fk)) (hj : j ≤ k := by decide)
    (hall : (backToKw pos (keywordEach kws X.env)).all (·.1.isSome) = true := by rfl) (hks : (backToKw pos (keywordEach kws X.env)).filterMap (·.1) = ks := by rfl)
    (hdb : (x == ("__debug__" : Str)) = false := by decide) (hpl : ((backTo pos (starEach [] X.env)).any (·.1) || (backToKw pos (keywordEach kws X.env)).any (·.1.isNone)) = false := by rfl) : JE X (.Call (.Name x p) [] kws pos) (dCallK0 ks.length n ix g fk) := by
  obtain ⟨f, fd, hm, F, B, G⟩ := h.ex
  exact je_callK0 (pe_callGK0 G hg (hr.mono hj) hx hm F.kp (bindsK_of F hb) hkw hall hks hdb hpl)
end
/-! ### the law -/
theorem law_G {P : Program} {w : World} {K : PySem.W.Frag} {mg mb : Str → Option Value} {k : Nat} {fa a : Addr} {fd : FuncData} {x : Str} {g : List PyData → Option Rv} {t : Shared} {vs : List Value} {ns : List Int}
    (inK : K.In t.heap) (gl : t.heap.Ns mainGlobals mg) (bl : t.heap.Ns builtinsNs mb) (bb : ∀ y : Str, y ≠ "__name__" → mb y = bootBuiltins y) (nl : t.heap.NoLimit) (ng : t.gens = #[])
    (ob : t.heap.get? a = some { cls := .type "list", data := .seq vs.toArray }) (iv : IntsAre vs ns) (len : ns.length ≤ sizeLine) (room : Room k callerA)
    (F : ∀ base : Heap, K.In base → base.Ns mainGlobals mg → FnG P w K mg base k fa fd [x] (spD K 1 g)) (bind : ∀ (s : Shared) (u : Value), BindsTo s fd ⟨[u], []⟩ [(x, u)])
    (ans : g [.list (ns.map .int)] = some (.dat (.bool true))) :
    codeAny (model P w) callerA (.call (.ref fa) ⟨[.ref a], []⟩) (fun r s' => r = .ok (.ret (.bool true)) ∧ OldK t.heap s'.heap ∧ s'.os = t.os ∧ AllBare s'.gens) t := by
  have rel := vals_ints iv
  have lv := iv.length
  let scriptObj : Obj := { cls := .type "list", data := .seq vs.toArray }
  let H : Hp := fun b => if b = a ∧ K.lookup a = none then some (.frz scriptObj (.lst (ns.map V.int))) else none
  have Hat : ∀ {b : Addr} {o : HO}, H b = some o → b = a ∧ K.lookup a = none ∧ o = .frz scriptObj (.lst (ns.map V.int)) := fun {b o} h => by
    by_cases c : b = a ∧ K.lookup a = none
    · have h' := (if_pos c).symm.trans h
      cases h'
      exact ⟨c.1, c.2, rfl⟩
    · have h' := (if_neg c).symm.trans h
      cases h'
  have held : HOk P w H t.heap := fun b o h => by
    obtain ⟨rfl, _, rfl⟩ := Hat h
    exact ⟨ob, by rw [List.length_map]; exact len, vs, _, rel, ob⟩
  have nsFree : ∀ {b : Addr} {m : Str → Option Value}, t.heap.Ns b m → H b = none := fun {b m} ⟨o, es, ep, e, d, _⟩ => by
    cases q : H b with
    | none => rfl
    | some u =>
      obtain ⟨rfl, _, _⟩ := Hat q
      rw [ob] at e
      cases e
      exact nomatch d
  have toB : ∀ {b : Addr} {m : Str → Option Value}, t.heap.Ns b m → (hidT t.heap H).Ns b m := fun {b m} z => by
    have n := nsFree z
    obtain ⟨o, es, ep, e, d, r⟩ := z
    exact ⟨o, es, ep, hidT_get e n, d, r⟩
  have inB : K.In (hidT t.heap H) := fun b o e => hidT_get (inK b o e) (by
    cases q : H b with
    | none => rfl
    | some u =>
      obtain ⟨rfl, h2, _⟩ := Hat q
      rw [h2] at e
      cases e)
  have m0 : Mod K mg (hidT t.heap H) := by
    obtain ⟨mc, l1, l2⟩ := nl
    exact ⟨inB, toB gl, ⟨mb, toB bl, bb⟩, ⟨mc, toB l1, l2⟩⟩
  have e0 : Env0 P w K mg (hidT t.heap H) callerA [] t H := ⟨rfl, m0, fun b o e => of_hidT e, Nat.le_of_eq (hidT_size _ _), trivial, (fun b hb => (List.not_mem_nil hb).elim), held, .of_eq ng⟩
  have isL : Dq K H (.ref a) (.list (ns.map .int)) := by
    refine .lst ?_ (ints_dq H ns)
    cases kk : K.lookup a with
    | none => exact .inl (.inr ⟨scriptObj, if_pos ⟨rfl, kk⟩⟩)
    | some o =>
      have e := inK a o kk
      rw [ob] at e
      cases e
      exact .inr ⟨vs.toArray, _, kk, by rw [List.size_toArray, lv]; exact len, by simpa using rel⟩
  refine codeAny_mono ((F _ inB (toB gl)).run callerA [] t H ⟨[.ref a], []⟩ [.ref a] [.ref a] (fun v _ => v = .bl true) rfl room e0 (bind t (.ref a)) (.cons rfl .nil)
    ⟨H, _, _, .refl H, .cons isL .nil, rfl, ans, fun v F' H' gr rv => by cases rv; rfl⟩) fun r s' z => ?_
  cases r with
  | error e => exact z.elim
  | ok fl =>
    cases fl with
    | next => exact z.elim
    | brk => exact z.elim
    | cont => exact z.elim
    | ret u =>
      obtain ⟨v, H', os, bare, un, hok', r', q⟩ := z
      have q' : v = .bl true := q
      subst q'
      have eu : u = Value.bool true := r'
      subst eu
      refine ⟨rfl, OldK.of_keep fun b o e => ?_, os, bare⟩
      cases c : H b with
      | none => exact un.keep b o e c (by intro z; cases z) (by intro z; cases z)
      | some u =>
        obtain ⟨rfl, _, rfl⟩ := Hat c
        obtain ⟨e2, _⟩ := hok' b _ (un.frzs b _ _ c)
        rw [ob] at e
        cases e
        exact e2
/-- the end of a law row -/
theorem walk_G {l : PySem.W.OpenLaw} {n k : Nat} {q : Program} {loose : List Str} {XP : (Str → Option Value) → Heap → Prop} {YP : World → Heap → Prop} {d : DefRec} {x : Str} {g : World → List PyData → Option Rv}
    (hn : l.most = some n) (hn2 : n ≤ sizeLine) (hdf : d.params.defaults = []) (hr : Room k callerA)
    (F : ∀ (w : World) (mg : Str → Option Value) (fa : Addr) (h : Heap), YP w h → h.Ns mainGlobals mg → mg d.name = some (.ref fa) →
      ∃ (K : PySem.W.Frag) (fd : FuncData), K.In h ∧ (∀ (s : Shared) (u : Value), BindsTo s fd ⟨[u], []⟩ [(x, u)]) ∧
        ∀ base : Heap, K.In base → base.Ns mainGlobals mg → FnG l.prog w K mg base k fa fd [x] (spD K 1 (g w)))
    (ans : ∀ (w : World) (ns : List Int), ns.length ≤ n → g w [.list (ns.map .int)] = some (.dat (.bool true))) :
    PySem.W.WalkO q loose XP YP l.row.toRowW d [] (fun f vs => PySem.call f vs) := by
  refine Att.attach_call hn hdf fun w s0 t mg mb fa o pm cd doc a vs ns G Y ho hd hcd hmg hobj hints hlen hg => ?_
  obtain ⟨K, fd, KX, hb, hF⟩ := F w mg fa _ Y G.T.g hmg
  exact law_G KX G.T.g G.T.b G.T.builtins G.T.nolimit hg hobj hints (Nat.le_trans hlen hn2) hr hF hb (ans w ns hlen)
end Jd
/-! Jd: a, b = x, y; products; what is never reached. -/
namespace Jd
open PySem PySem.Spec PyProof.Rows L2
/-! ### several values, some of them new lists -/
inductive RvsOk (K : PySem.W.Frag) (B : Bs) (G : En) (σ : L2.St) (F H : Hp) : List V → List Rv → List Addr → Prop where
  | nil : RvsOk K B G σ F H [] [] []
  | dat {v : V} {vs : List V} {d : PyData} {rs : List Rv} {as : List Addr} : Dq K F v d → RvsOk K B G σ F H vs rs as → RvsOk K B G σ F H (v :: vs) (.dat d :: rs) as
  | new {p : Addr} {ws : List V} {ds : List PyData} {vs : List V} {rs : List Rv} {as : List Addr} : F p = none → H p = some (.lst ws) → DqAll K F ws ds → B.h0 p = none → (∀ j, ¬ Owns G σ j p) → p ∉ as → RvsOk K B G σ F H vs rs as → RvsOk K B G σ F H (.ref p :: vs) (.new ds :: rs) (p :: as)
def tRs (K : PySem.W.Frag) (f : En → Option (List Rv × En)) : TA := fun σ H Q => ∃ (B : Bs) (F : Hp) (G : En) (rs : List Rv) (G' : En), Rp K B G σ F H ∧ f G = some (rs, G') ∧
  ∀ vs F' H' as, Rp K B G' σ F' H' → Same F F' → RvsOk K B G' σ F' H' vs rs as → (∀ a, a ∈ as → H a = none) → Q vs H'
abbrev JRs (X : Cx) (es : List Expr) (f : En → Option (List Rv × En)) : Prop := PA X es (tRs X.K f)
def dRs0 : En → Option (List Rv × En) := fun G => some ([], G)
def dRsE (f : En → Option (PyData × En)) (g : En → Option (List Rv × En)) : En → Option (List Rv × En) := fun G => (f G).bind fun r => (g r.2).bind fun q => some (.dat r.1 :: q.1, q.2)
def dRsN (f : En → Option (List PyData × En)) (g : En → Option (List Rv × En)) : En → Option (List Rv × En) := fun G => (f G).bind fun r => (g r.2).bind fun q => some (.new r.1 :: q.1, q.2)
theorem RvsOk.back {K : PySem.W.Frag} {B B' : Bs} {G : En} {σ : L2.St} {F H : Hp} (h : ∀ p, B'.h0 p = none → B.h0 p = none) {vs : List V} {rs : List Rv} {as : List Addr} (r : RvsOk K B' G σ F H vs rs as) : RvsOk K B G σ F H vs rs as := by
  induction r with
  | nil => exact .nil
  | dat q _ ih => exact .dat q ih
  | new n l q hb ho hn _ ih => exact .new n l q (h _ hb) ho hn ih
section
variable {X : Cx} {e : Expr} {es : List Expr} {st : Stmt} {pos : Pos}
theorem jrs_nil : JRs X [] dRs0 := pa_im pa_nil fun σ H Q ⟨B, F, G, as, G', R, e, k⟩ => by
  cases e
  exact k [] F H [] R (.refl F) .nil (fun a h => by cases h)
theorem Rp.mono_h {K : PySem.W.Frag} {B : Bs} {G G' : En} {σ σ' : L2.St} {F F' H H' : Hp} (R : Rp K B G σ F H) (R' : Rp K (B.now G σ F H) G' σ' F' H') : ∀ a, H' a = none → H a = none := fun a n => by
  cases z : H a with
  | none => rfl
  | some o =>
    by_cases h : ∃ i, Owns G σ i a
    · exact absurd n (R'.alive a h)
    · rw [R'.keep a o z h] at n
      cases n
theorem jrs_E {f : En → Option (PyData × En)} {g : En → Option (List Rv × En)} (h : JE X e f) (hr : JRs X es g) (hs : starEach (e :: es) X.env = (false, eval e X.env) :: starEach es X.env := by rfl) : JRs X (e :: es) (dRsE f g) :=
  pa_im (pa_cons h hr hs) fun σ H Q ⟨B, F, G, as, G', R, e, k⟩ => by
    obtain ⟨⟨a, G1⟩, e1, e2⟩ := Option.bind_eq_some_iff.mp e
    obtain ⟨⟨as', G2⟩, e3, e4⟩ := Option.bind_eq_some_iff.mp e2
    cases e4
    refine ⟨_, F, G, a, G1, R.now, e1, fun v F1 H1 R1 s1 q1 => ⟨B, F1, G1, as', _, R.back R1, e3, fun vs F2 H2 aa R2 s2 q2 n2 => ?_⟩⟩
    exact k _ F2 H2 aa R2 (s1.trans s2) (.dat (dp_mono s2 q1) q2) fun a ha => R.mono_h R1 a (n2 a ha)
theorem jrs_N {f : En → Option (List PyData × En)} {g : En → Option (List Rv × En)} (h : JN X e f) (hr : JRs X es g) (hs : starEach (e :: es) X.env = (false, eval e X.env) :: starEach es X.env := by rfl) : JRs X (e :: es) (dRsN f g) :=
  pa_im (pa_cons h hr hs) fun σ H Q ⟨B, F, G, as, G', R, e, k⟩ => by
    obtain ⟨⟨a, G1⟩, e1, e2⟩ := Option.bind_eq_some_iff.mp e
    obtain ⟨⟨as', G2⟩, e3, e4⟩ := Option.bind_eq_some_iff.mp e2
    dsimp only at e3 e4
    obtain ⟨rfl, rfl⟩ : as = .new a :: as' ∧ G' = G2 := by cases e4; exact ⟨rfl, rfl⟩
    refine ⟨_, F, G, a, G1, R.now, e1, fun p ws F1 H1 R1 s1 n1 l1 q1 hb1 ho1 => ?_⟩
    have R1b := R.back R1
    refine ⟨_, F1, G1, as', G', R1b.now, e3, fun vs F2 H2 aa R2 s2 q2 n2 => ?_⟩
    have l2 : H2 p = some (.lst ws) := R2.keep p _ l1 fun ⟨j, hj⟩ => ho1 j hj
    have nf2 : F2 p = none := by
      cases z : F2 p with
      | none => rfl
      | some o =>
        rcases R2.fnew p o z with w | w | ⟨j, hj⟩
        · have w' : F1 p = some o := w
          rw [n1] at w'; cases w'
        · have w' : H1 p = none := w
          rw [l1] at w'; cases w'
        · exact absurd hj (ho1 j)
    have ho2 : ∀ j, ¬ Owns G' σ j p := fun j ⟨⟨io, zs, h1⟩, ej⟩ => by
      rcases R2.born j io zs p h1 ej with w | ⟨j', hj'⟩
      · have w' : H1 p = none := w
        rw [l1] at w'; cases w'
      · exact ho1 j' hj'
    have hp : p ∉ aa := fun hp => by
      have := n2 p hp
      rw [l1] at this
      cases this
    refine k _ F2 H2 (p :: aa) (R1b.back R2) (s1.trans s2) (.new nf2 l2 (dpAll_mono s2 q1) (R.newFree hb1) ho2 hp (RvsOk.back (fun z hz => R1b.newFree hz) q2)) fun a ha => ?_
    rcases List.mem_cons.mp ha with rfl | ha
    · exact hb1
    · exact R.mono_h R1 a (n2 a ha)
def Rv.sl : Rv → Sl
  | .dat d => .dat d
  | .new ds => .own false ds
/-- a slot gets what a value is -/
theorem Rp.setRv {K : PySem.W.Frag} {B : Bs} {G : En} {σ : L2.St} {F H : Hp} (R : Rp K B G σ F H) {i : Nat} {v : V} {vs : List V} {r : Rv} {rs : List Rv} {as : List Addr} (q : RvsOk K B G σ F H (v :: vs) (r :: rs) as) :
    Rp K B (G.set i r.sl) (σ.set i (some v)) F H ∧ ∃ as', RvsOk K B (G.set i r.sl) (σ.set i (some v)) F H vs rs as' := by
  have keepN : ∀ {x : Sl} {y : Option V}, (∀ io ds, x ≠ .own io ds) → ∀ {vs : List V} {rs : List Rv} {as : List Addr}, RvsOk K B G σ F H vs rs as → RvsOk K B (G.set i x) (σ.set i y) F H vs rs as := fun {x y} hx {vs rs as} q => by
    induction q with
    | nil => exact .nil
    | dat q _ ih => exact .dat q ih
    | new n l q hb ho hn _ ih =>
      refine .new n l q hb (fun j ⟨⟨io, zs, h1⟩, ej⟩ => ?_) hn ih
      by_cases hj : i = j
      · subst hj
        exact hx io zs (set_at h1).2.symm
      · rw [List.getElem?_set_ne hj] at h1 ej
        exact ho j ⟨⟨io, zs, h1⟩, ej⟩
  cases q with
  | @dat _ _ d _ _ q1 q2 => exact ⟨R.set q1, _, keepN (fun io ds z => by cases z) q2⟩
  | @new p ws ds _ _ as n l q1 hb ho hn q2 =>
    refine ⟨R.setOwn n l q1 (.inl hb) ho, as, ?_⟩
    clear keepN
    have gen : ∀ {vs : List V} {rs : List Rv} {as : List Addr}, RvsOk K B G σ F H vs rs as → p ∉ as → RvsOk K B (G.set i (.own false ds)) (σ.set i (some (.ref p))) F H vs rs as := fun {vs rs as} q hn => by
      induction q with
      | nil => exact .nil
      | dat q _ ih => exact .dat q (ih hn)
      | @new p' ws' ds' vs' rs' as' n l q hb ho hn' _ ih =>
        have hpp : p ≠ p' := fun z => hn (by rw [z]; exact List.mem_cons_self)
        refine .new n l q hb (fun j ⟨⟨io, zs, h1⟩, ej⟩ => ?_) hn' (ih fun z => hn (List.mem_cons_of_mem _ z))
        by_cases hj : i = j
        · subst hj
          by_cases hl : i < σ.length
          · rw [List.getElem?_set_self hl] at ej
            cases ej
            exact hpp rfl
          · rw [List.getElem?_eq_none (by rw [List.length_set]; omega)] at ej
            cases ej
        · rw [List.getElem?_set_ne hj] at h1 ej
          exact ho j ⟨⟨io, zs, h1⟩, ej⟩
    exact gen q2 hn
def dPar2 (i j : Nat) (f : En → Option (List Rv × En)) : En → Option (Fl × En) := fun G => (f G).bind fun r => match r.1 with
  | [x, y] => some (.nx, (r.2.set i x.sl).set j y.sl)
  | _ => none
theorem js_par2 {i j : Nat} {f : En → Option (List Rv × En)} (hp : PS X st (tPar i j (tRs X.K f))) : JS X st (dPar2 i j f) := ps_im hp fun D σ H ⟨B, F, G, fl, G', R, e, k⟩ => by
  obtain ⟨⟨rs, G1⟩, e1, e2⟩ := Option.bind_eq_some_iff.mp e
  dsimp only at e2
  split at e2
  · rename_i x y
    cases e2
    refine ⟨B, F, G, _, G1, R, e1, fun vs F1 H1 as R1 s1 q1 _ => ?_⟩
    obtain ⟨v, w, rfl⟩ : ∃ v w, vs = [v, w] := by
      cases q1 with
      | dat _ q => cases q with
        | dat _ q => cases q; exact ⟨_, _, rfl⟩
        | new _ _ _ _ _ _ q => cases q; exact ⟨_, _, rfl⟩
      | new _ _ _ _ _ _ q => cases q with
        | dat _ q => cases q; exact ⟨_, _, rfl⟩
        | new _ _ _ _ _ _ q => cases q; exact ⟨_, _, rfl⟩
    obtain ⟨R2, as2, q2⟩ := R1.setRv (i := i) q1
    obtain ⟨R3, _, _⟩ := R2.setRv (i := j) q2
    exact ⟨v, w, rfl, k _ F1 H1 R3 s1⟩
  · cases e2
def dPar3 (i j l : Nat) (f : En → Option (List Rv × En)) : En → Option (Fl × En) := fun G => (f G).bind fun r => match r.1 with
  | [x, y, z] => some (.nx, ((r.2.set i x.sl).set j y.sl).set l z.sl)
  | _ => none
theorem js_par3 {i j l : Nat} {f : En → Option (List Rv × En)} (hp : PS X st (tPar3 i j l (tRs X.K f))) : JS X st (dPar3 i j l f) := ps_im hp fun D σ H ⟨B, F, G, fl, G', R, e, k⟩ => by
  obtain ⟨⟨rs, G1⟩, e1, e2⟩ := Option.bind_eq_some_iff.mp e
  dsimp only at e2
  split at e2
  · rename_i x y z
    cases e2
    refine ⟨B, F, G, _, G1, R, e1, fun vs F1 H1 as R1 s1 q1 _ => ?_⟩
    obtain ⟨v, vs1, rfl⟩ : ∃ v w, vs = v :: w := by cases q1 <;> exact ⟨_, _, rfl⟩
    obtain ⟨R2, as2, q2⟩ := R1.setRv (i := i) q1
    obtain ⟨w, vs2, rfl⟩ : ∃ v w, vs1 = v :: w := by cases q2 <;> exact ⟨_, _, rfl⟩
    obtain ⟨R3, as3, q3⟩ := R2.setRv (i := j) q2
    obtain ⟨u, vs3, rfl⟩ : ∃ v w, vs2 = v :: w := by cases q3 <;> exact ⟨_, _, rfl⟩
    obtain ⟨R4, as4, q4⟩ := R3.setRv (i := l) q3
    cases q4
    exact ⟨v, w, u, rfl, k _ F1 H1 R4 s1⟩
  · cases e2
/-- code that is never come to -/
def dNever : En → Option (Fl × En) := fun _ => none
theorem js_never : JS X st dNever := ps_im ps_never fun D σ H ⟨B, F, G, fl, G', R, e, k⟩ => by cases e
end
/-! ### products -/
def rRepR (K : PySem.W.Frag) : R2 := fun x y H Q => ∃ l k xs, x = .ref l ∧ y = .int k ∧ Ls K H l xs ∧ -(2 ^ 63) ≤ k ∧ k < 2 ^ 63 ∧ xs.length * k.toNat ≤ sizeLine ∧ ∀ p, H p = none → Q (.ref p) (upd H p (.lst (List.replicate k.toNat xs).flatten))
theorem op_repR {X : Cx} : OpR X (binaryOp .Mult) (rRepR X.K) := by
  intro pins s σ H x y v u Q I rx ry h
  obtain ⟨l, k, xs, rfl, rfl, hl, h1, h2, hz, q⟩ := h
  cases rx
  obtain ⟨t, rfl⟩ := ry
  obtain ⟨_, us, n, r, el, g⟩ := rd_at I hl
  have sz : us.toArray.size * k.toNat ≤ sizeLine := by rw [List.size_toArray, ← el]; exact hz
  have cap : ¬ us.toArray.size * k.toNat > (2 ^ 63 - 1) / 8 := by
    have z : (sizeLine : Nat) ≤ (2 ^ 63 - 1) / 8 := by decide
    omega
  have fit : ¬ (!Builtin.List.listFitsIndex k) = true := by
    rw [fitsIndex_both h1 h2]
    decide
  have lng : ¬ Builtin.List.listTooLong (us.toArray.size * k.toNat) = true := by
    rw [notLongL sz]
    decide
  have made : List.foldl (fun x1 x2 => x1 ++ x2) #[] (List.replicate (if us.toArray.isEmpty = true then 0 else k.toNat) us.toArray) = (List.replicate k.toNat us).flatten.toArray := by
    have f0 : ∀ m : Nat, List.foldl (fun x1 x2 => x1 ++ x2) #[] (List.replicate m us.toArray) = (List.replicate m us).flatten.toArray := fun m => by
      have z := foldl_rep us m []
      rw [List.nil_append] at z
      exact z
    rw [f0]
    cases us with
    | nil => simp
    | cons a r' => rw [if_neg (by simp)]
  refine wpAny_binaryOp_repeat_ref (T := "list") (U := "int") (by decide) ⟨_, g, rfl⟩ (fun s' => typeIs_int s' k t) noFill_list_mul F.fills_int_mul F.slot_int_rmul repeat_list F.slot_int_index.lookup ?_
  refine call_meets F.slot_int_rmul (typeIs_int s k t) F.entry_int_rmul (F.args_int_rmul_2 _ _) (int___rmul___int_list k t l us.toArray n) ⟨g, rfl, ⟨_, g, rfl⟩, ?_⟩
  refine call_meets F.slot_list_mul ⟨_, g, rfl⟩ F.entry_list_mul (F.args_list_mul_2 _ _) (AutoListH.list___mul___list_int_3 l us.toArray n k t fit cap lng) ⟨g, ?_⟩
  rw [made]
  exact ⟨.ref _, _, I.lnew (t' := s.toks) (r.rep k.toNat) (by rw [PyProof.Rows.lm_len_rep_flat, Nat.mul_comm]; exact hz), rfl, q _ I.fresh⟩
def repD (k : Int) (ds : List PyData) : List PyData := (List.replicate k.toNat ds).flatten
theorem dq_rep {K : PySem.W.Frag} {F : Hp} {vs : List V} {ds : List PyData} (h : DqAll K F vs ds) : ∀ n : Nat, DqAll K F (List.replicate n vs).flatten (List.replicate n ds).flatten
  | 0 => .nil
  | n + 1 => by
    rw [List.replicate_succ, List.replicate_succ, List.flatten_cons, List.flatten_cons]
    exact dp_app h (dq_rep h n)
def gMul : PyData → PyData → Option PyData
  | .int a, .int b => if mulOk a b then some (.int (a * b)) else none
  | .list ds, .int k => if -(2 ^ 63) ≤ k ∧ k < 2 ^ 63 ∧ ds.length * k.toNat ≤ big then some (.list (repD k ds)) else none
  | _, _ => none
def rMulAll (K : PySem.W.Frag) : R2 := fun x y H Q => rI CMulW (fun i j => .int (i * j)) x y H Q ∨ rRepR K x y H Q
theorem op_mulAll {X : Cx} : OpR X (binaryOp .Mult) (rMulAll X.K) := OpR.or op_mulW op_repR
theorem pr_mul {K : PySem.W.Frag} : Pr2 K (rMulAll K) gMul := by
  intro F H v w x y z Q s p1 p2 e k
  unfold gMul at e
  split at e
  · split at e
    · rename_i a b h
      cases e
      exact .inl ⟨_, _, p1.int, p2.int, (of_decide_eq_true h : a.natAbs.log2 + b.natAbs.log2 < 1000000), k _ _ _ (.refl s) (.int _)⟩
    · cases e
  · split at e
    · rename_i ds kk h
      cases e
      obtain ⟨a, ws, rfl, h1, q⟩ := p1.lst s
      refine .inr ⟨a, kk, ws, rfl, p2.int, h1, h.1, h.2.1, by rw [dp_len q]; exact big_le h.2.2, fun l n => ?_⟩
      have g := Grow.upd (o := .lst (List.replicate kk.toNat ws).flatten) s n
      exact k _ _ _ g (.lst (Ls.of upd_same) (dpAll_mono g.f (dq_rep q _)))
    · cases e
  · cases e
def gMulN : PyData → PyData → Option (List PyData)
  | .list ds, .int k => if -(2 ^ 63) ≤ k ∧ k < 2 ^ 63 ∧ ds.length * k.toNat ≤ big then some (repD k ds) else none
  | _, _ => none
theorem pr_mulN {K : PySem.W.Frag} : PrN2 K (rMulAll K) gMulN := by
  intro F H v w x y z Q s p1 p2 e k
  unfold gMulN at e
  split at e
  · split at e
    · rename_i ds kk h
      cases e
      obtain ⟨a, ws, rfl, h1, q⟩ := p1.lst s
      exact .inr ⟨a, kk, ws, rfl, p2.int, h1, h.1, h.2.1, by rw [dp_len q]; exact big_le h.2.2, fun l n => k l _ n (dq_rep q _)⟩
    · cases e
  · cases e
/-! a list's cut, new -/
def gSlN : PyData → Option Int → Option Int → Option (List PyData)
  | .list ds, lo, hi => some (cutD ds lo hi)
  | _, _, _ => none
def dSlN (g : PyData → Option Int → Option Int → Option (List PyData)) (fa : En → Option (Ag × En)) (fl fu : En → Option (Option Int × En)) : En → Option (List PyData × En) := fun G =>
  (fa G).bind fun r => (fl r.2).bind fun l => (fu l.2).bind fun u => (r.1.get u.2).bind fun x => (g x l.1 u.1).bind fun z => some (z, u.2)
theorem jn_sl {X : Cx} {a : Expr} {pos p2 : Pos} {fa : En → Option (Ag × En)} {lo hi : Option Expr} {fl fu : En → Option (Option Int × En)} (ha : JP X a fa) (hl : JO X lo fl) (hu : JO X hi fu) :
    JN X (.Subscript a (.Slice lo hi none p2) pos) (dSlN gSlN fa fl fu) := pe_im (pe_slice sl_list ha hl hu) fun σ H Q h => by
  obtain ⟨B, F, G, d, G', R, e, k⟩ := h
  obtain ⟨⟨x, G1⟩, e1, e⟩ := Option.bind_eq_some_iff.mp e
  obtain ⟨⟨l, G2⟩, e2, e⟩ := Option.bind_eq_some_iff.mp e
  obtain ⟨⟨u, G3⟩, e3, e⟩ := Option.bind_eq_some_iff.mp e
  obtain ⟨dx, e4, e⟩ := Option.bind_eq_some_iff.mp e
  obtain ⟨z, e5, e⟩ := Option.bind_eq_some_iff.mp e
  cases e
  refine ⟨B, F, G, x, G1, R, e1, fun v F1 H1 R1 s1 q1 => ⟨B, F1, G1, l, _, R1, e2, fun F2 H2 R2 s2 => ⟨B, F2, G2, u, _, R2, e3, fun F3 H3 R3 s3 => ?_⟩⟩⟩
  unfold gSlN at e5
  split at e5
  · cases e5
    obtain ⟨a, ws, rfl, h, q⟩ := (R3.get ((q1.mono s2).mono s3) e4).lst R3.same
    refine ⟨a, ws, rfl, h.sq, fun p n => ?_⟩
    exact k p _ F3 _ (R3.lay n) ((s1.trans s2).trans s3) (R3.same.free n) upd_same (dp_cut q _ _) (R3.newFree n) (R3.newOwn n)
  · cases e5
end Jd
/-! Jd: an assignment by a target, a test that only reads, what a law's text needs. -/
namespace Jd
open PySem PySem.Spec PyProof.Rows L2
section
variable {X : Cx} {st : Stmt} {c : Expr}
/-- target = value -/
def dAsg (f : En → Option (PyData × En)) (gt : PyData → En → Option En) : En → Option (Fl × En) := fun G => (f G).bind fun r => (gt r.1 r.2).bind fun G2 => some (.nx, G2)
theorem js_asg {vs : List Nat} {f : En → Option (PyData × En)} {gt : PyData → En → Option En} (hp : PS X st (tAsg (tJ X.K f) (tG X.K vs gt))) : JS X st (dAsg f gt) := ps_im hp fun D σ H ⟨B, F, G, fl, G', R, e, k⟩ => by
  obtain ⟨⟨x, G1⟩, e1, e⟩ := Option.bind_eq_some_iff.mp e
  obtain ⟨G2, e2, e⟩ := Option.bind_eq_some_iff.mp e
  cases e
  exact ⟨B, F, G, x, G1, R, e1, fun v F1 H1 R1 s1 q1 => ⟨B, F1, G1, x, _, R1, q1, e2, fun σ' F2 H2 R2 s2 _ => k σ' F2 H2 R2 (s1.trans s2)⟩⟩
/-! ### a part that only reads: lists of one's own are lent, and are one's own again after -/
def Sl.frz : Sl → Sl
  | .own _ ds => .dat (.list ds)
  | x => x
theorem frz_own {x : Sl} {io : Bool} {ds : List PyData} : x.frz ≠ .own io ds := by
  cases x <;> intro h <;> cases h
open Classical in
theorem Rp.lend {K : PySem.W.Frag} {B : Bs} {G : En} {σ : L2.St} {F H : Hp} (R : Rp K B G σ F H) : ∃ F1, Same F F1 ∧ Rp K B (G.map Sl.frz) σ F1 H := by
  have s1 : Same F (fun a => if ∃ i, Owns G σ i a then H a else F a) := fun a o e => by
    show (if ∃ i, Owns G σ i a then H a else F a) = some o
    split
    · exact R.same a o e
    · exact e
  have no : ∀ {j : Nat} {io : Bool} {es : List PyData}, (G.map Sl.frz)[j]? ≠ some (.own io es) := fun {j io es} e => by
    rw [List.getElem?_map] at e
    obtain ⟨x, _, h⟩ := Option.map_eq_some_iff.mp e
    exact frz_own h
  refine ⟨_, s1, ⟨by rw [List.length_map]; exact R.len, fun a o e => ?_, fun i x e => ?_, fun i io ds a e => absurd e no, fun i j io jo ds es a e => absurd e no, R.keep, R.alive, fun a o e => ?_⟩⟩
  · replace e : (if ∃ i, Owns G σ i a then H a else F a) = some o := e
    split at e
    · exact e
    · exact R.same a o e
  · rw [List.getElem?_map] at e
    obtain ⟨z, ez, h⟩ := Option.map_eq_some_iff.mp e
    obtain ⟨y, ey, ok⟩ := R.slot i z ez
    refine ⟨y, ey, ?_⟩
    cases z with
    | un => cases h; trivial
    | dat d =>
      cases h
      obtain ⟨v, ev, q⟩ := ok
      exact ⟨v, ev, dp_mono s1 q⟩
    | own io ds =>
      cases h
      obtain ⟨a, vs, e1, _, n, l, q⟩ := ok
      refine ⟨_, e1, .lst (Ls.of ?_) (dpAll_mono s1 q)⟩
      show (if ∃ i, Owns G σ i a then H a else F a) = _
      rw [if_pos ⟨i, ⟨_, _, ez⟩, by rw [ey, e1]⟩]
      exact l
  · replace e : (if ∃ i, Owns G σ i a then H a else F a) = some o := e
    split at e
    · rename_i h
      obtain ⟨i, ⟨⟨io, ds, eg⟩, ei⟩⟩ := h
      exact .inr (R.born i io ds a eg ei)
    · exact R.fnew a o e
theorem Rp.again {K : PySem.W.Frag} {B : Bs} {G G' : En} {σ σ' : L2.St} {F F1 F' H H' : Hp} (R : Rp K B G σ F H) (R1 : Rp K B (G.map Sl.frz) σ F1 H) (R' : Rp K (B.now (G.map Sl.frz) σ F1 H) G' σ' F' H') : Rp K B G σ F H' := by
  have no : ∀ a, ¬ ∃ i, Owns (G.map Sl.frz) σ i a := fun a ⟨i, ⟨⟨io, ds, e⟩, _⟩⟩ => by
    rw [List.getElem?_map] at e
    obtain ⟨x, _, h⟩ := Option.map_eq_some_iff.mp e
    exact frz_own h
  have hh : Same H H' := fun a o e => R'.keep a o e (no a)
  refine ⟨R.len, fun a o e => hh a o (R.same a o e), fun i x e => ?_, R.born, R.dist, fun a o e n => hh a o (R.keep a o e n), fun a h z => ?_, R.fnew⟩
  · obtain ⟨y, ey, ok⟩ := R.slot i x e
    refine ⟨y, ey, ?_⟩
    cases x with
    | un => trivial
    | dat d => exact ok
    | own io ds =>
      obtain ⟨a, vs, e1, pa, n, l, q⟩ := ok
      exact ⟨a, vs, e1, pa, n, hh a _ l, q⟩
  · cases e : H a with
    | none => exact R.alive a h e
    | some o => rw [hh a o e] at z; cases z
def dLendT (f : En → Option (Bool × En)) : En → Option (Bool × En) := fun G => (f (G.map Sl.frz)).bind fun r => some (r.1, G)
theorem jt_lend {f : En → Option (Bool × En)} (h : JT X c f) : JT X c (dLendT f) := pt_im h fun σ H Q ⟨B, F, G, b, G', R, e, k⟩ => by
  obtain ⟨⟨x, G1⟩, e1, e⟩ := Option.bind_eq_some_iff.mp e
  cases e
  obtain ⟨F1, s1, R1⟩ := R.lend
  exact ⟨_, F1, _, x, G1, R1.now, e1, fun F2 H2 R2 s2 => k F H2 (R.again R1 R2) (.refl F)⟩
def isLeaf : PyData → Bool
  | .none => true
  | .bool _ => true
  | .int _ => true
  | .str _ => true
  | _ => false
theorem dq_leaf {K : PySem.W.Frag} {F F' : Hp} {v : V} {d : PyData} (h : isLeaf d = true) (q : Dq K F v d) : Dq K F' v d := by
  cases q with
  | non => exact .non
  | bl b => exact .bl b
  | int i => exact .int i
  | str x => exact .str x
  | lst _ _ => cases h
  | tup _ _ => cases h
def dLend (f : En → Option (PyData × En)) : En → Option (PyData × En) := fun G => (f (G.map Sl.frz)).bind fun r => if isLeaf r.1 = true then some (r.1, G) else none
theorem je_lend {f : En → Option (PyData × En)} (h : JE X c f) : JE X c (dLend f) := pe_im h fun σ H Q ⟨B, F, G, b, G', R, e, k⟩ => by
  obtain ⟨⟨x, G1⟩, e1, e⟩ := Option.bind_eq_some_iff.mp e
  dsimp only at e
  split at e
  · rename_i hl
    cases e
    obtain ⟨F1, s1, R1⟩ := R.lend
    exact ⟨_, F1, _, _, G1, R1.now, e1, fun v F2 H2 R2 s2 q => k v F H2 (R.again R1 R2) (.refl F) (dq_leaf hl q)⟩
  · cases e
end
/-! ### a call that is lent a new list -/
theorem Rp.other {K : PySem.W.Frag} {B : Bs} {G : En} {σ : L2.St} {F H F' H' : Hp} (R : Rp K B G σ F H) {p : Addr} (ho : ∀ j, ¬ Owns G σ j p) (hb : B.h0 p = none)
    (sF : Same F F') (sH : ∀ b o, b ≠ p → H b = some o → H' b = some o) (fh : Same F' H') (new : ∀ b o, F' b = some o → F b = some o ∨ H b = none) (al : H' p ≠ none) : Rp K B G σ F' H' := by
  have nF : ∀ b us, F b = none → H b = some (.lst us) → F' b = none := fun b us h1 h2 => by
    cases z : F' b with
    | none => rfl
    | some o =>
      rcases new b o z with w | w
      · rw [h1] at w; cases w
      · rw [h2] at w; cases w
  refine ⟨R.len, fh, fun j x h => ?_, R.born, R.dist, fun b o h hn => ?_, fun b hb z => ?_, fun b o z => (new b o z).elim (R.fnew b o) fun n => .inr (.inl (R.newFree n))⟩
  · obtain ⟨y, ey, ok⟩ := R.slot j x h
    refine ⟨y, ey, ?_⟩
    cases x with
    | un => trivial
    | dat d => obtain ⟨v, e1, q1⟩ := ok; exact ⟨v, e1, dp_mono sF q1⟩
    | own jo zs =>
      obtain ⟨b, us, rfl, pb, nb, lb, qb⟩ := ok
      exact ⟨b, us, rfl, pb, nF b us nb lb, sH b _ (fun z => by subst z; exact ho j ⟨⟨_, _, h⟩, ey⟩) lb, dpAll_mono sF qb⟩
  · exact sH b o (fun z => by subst z; rw [hb] at h; cases h) (R.keep b o h hn)
  · by_cases hba : b = p
    · subst hba
      exact al z
    · cases w : H b with
      | none => exact R.alive b hb w
      | some o => rw [sH b o hba w] at z; cases z
section
variable {X : Cx} {e : Expr} {n : Nat}
def dCallLN (n : Nat) (g : List PyData → List PyData → Option (Rv × List PyData)) (fa : En → Option (List PyData × En)) (fs : En → Option (List PyData × En)) : En → Option (PyData × En) := fun G => (fa G).bind fun a => (fs a.2).bind fun r => if r.1.length = n then (g a.1 r.1).bind fun z => some (z.1.data, r.2) else none
theorem je_callLN {g : List PyData → List PyData → Option (Rv × List PyData)} {fa fs : En → Option (List PyData × En)} (h : PE X e (fun σ H Q => tCons (tN X.K fa) (tJs X.K fs) σ H fun vs H1 => spL X.K n g vs H1 Q E0)) : JE X e (dCallLN n g fa fs) := pe_im h fun σ H Q ⟨B, F, G, d, G', R, e, k⟩ => by
  obtain ⟨⟨pp, G1⟩, e1, e⟩ := Option.bind_eq_some_iff.mp e
  obtain ⟨⟨ds, G2⟩, e2, e⟩ := Option.bind_eq_some_iff.mp e
  dsimp only at e
  split at e
  · rename_i hl
    obtain ⟨⟨z, pp'⟩, e3, e4⟩ := Option.bind_eq_some_iff.mp e
    cases e4
    refine ⟨B, F, G, pp, G1, R, e1, fun p us F1 H1 R1 s1 np lp qp hb ho => ?_⟩
    refine ⟨_, F1, G1, ds, _, R1.now, e2, fun vs F2 H2 R2 s2 q2 => ?_⟩
    have noio : ¬ ∃ i, Owns G1 σ i p := fun ⟨i, h⟩ => ho i h
    have lp2 : H2 p = some (.lst us) := R2.keep p _ lp noio
    have np2 : F2 p = none := by
      cases z : F2 p with
      | none => rfl
      | some o =>
        rcases R2.fnew p o z with w | w | w
        · rw [show (B.now G1 σ F1 H1).f0 p = F1 p from rfl, np] at w; cases w
        · rw [show (B.now G1 σ F1 H1).h0 p = H1 p from rfl, lp] at w; cases w
        · exact absurd w noio
    have ho2 : ∀ j, ¬ Owns G' σ j p := fun j ⟨⟨io, es, h⟩, ej⟩ => by
      rcases R2.born j io es p h ej with w | w
      · rw [show (B.now G1 σ F1 H1).h0 p = H1 p from rfl, lp] at w; cases w
      · exact noio w
    have R3 := R1.back R2
    refine ⟨F2, p, us, vs, pp, ds, z, pp', rfl, R2.same, np2, lp2, dpAll_mono s2 qp, q2, hl, e3, fun v F' H' us' sF fh sH new l' q' rv => ?_⟩
    have R' := R3.other ho2 hb sF sH fh new (by rw [l']; intro z; cases z)
    cases z with
    | dat d => exact k v F' H' R' ((s1.trans s2).trans sF) rv
    | new zs =>
      obtain ⟨c, ws, rfl, hn, nF, l, q3⟩ := rv
      have s3 : Same F' (upd F' c (.lst ws)) := same_upd nF
      exact k _ _ _ (R'.frzNew nF l (R3.newOwn hn) (.inl (R3.newFree hn))) (((s1.trans s2).trans sF).trans s3) (.lst (Ls.of upd_same) (dpAll_mono s3 q3))
  · cases e
theorem je_okLN {k j : Nat} {x fn : Str} {pars : Arguments} {body : List Stmt} {sc : Scope} {ps : List Str} {p pos : Pos} {es : List Expr} {g : List PyData → List PyData → Option (Rv × List PyData)} {fa fs : En → Option (List PyData × En)} (h : Ok X.prog X.w X.K X.mg X.base j x fn pars body sc ps (spL X.K n g)) (hg : X.A.guards = some []) (hr : Room k X.A) (hx : Gl X x)
    (hv : JN X e fa) (ha : JEs X es fs) (hj : j ≤ k := by decide) (hdb : (x == ("__debug__" : Str)) = false := by decide) (he : starEach (e :: es) X.env = (false, eval e X.env) :: starEach es X.env := by rfl) (hpl : (backTo pos (starEach es X.env)).any (·.1) = false := by rfl) :
    JE X (.Call (.Name x p) (e :: es) [] pos) (dCallLN n g fa fs) := by
  obtain ⟨f, fd, hm, F, B, G⟩ := h.ex
  exact je_callLN (pe_callG G hg (hr.mono hj) hx hm F.kp B (pa_cons hv ha he) hdb he hpl)
end
/-! ### a recursion's ground -/
section
variable {P : Program} {w : World} {K : PySem.W.Frag} {mg : Str → Option Value} {base : Heap} {k : Nat} {x fn : Str} {pars : Arguments} {body : List Stmt} {sc : Scope} {ps : List Str}
theorem ok_none (a : At K mg x fn pars body sc) (n : Nat) (hn : ps.length = n)
    (hbd : ∀ (kV doc pm : Value) (an : Option Addr) (cdv ct : Value) (us : List Value), us.length = ps.length → bindArgs (PySem.W.fnOf fn fn pars body sc .none kV doc pm an cdv ct) ⟨us, []⟩ = pure (ps.zip us)) :
    Ok P w K mg base k x fn pars body sc ps (spD K n fun _ => none) := by
  obtain ⟨f, fd, e, F⟩ := a
  subst hn
  refine ⟨f, fd, e, F, FunD.bindsN F hbd, ⟨spD_len, fun A outer s H args us vs Q hg hr he hb hv h => ?_⟩⟩
  obtain ⟨_, _, _, _, _, _, z, _⟩ := h
  cases z
theorem ok_noneL (a : At K mg x fn pars body sc) (n : Nat) (hn : ps.length = n + 1)
    (hbd : ∀ (kV doc pm : Value) (an : Option Addr) (cdv ct : Value) (us : List Value), us.length = ps.length → bindArgs (PySem.W.fnOf fn fn pars body sc .none kV doc pm an cdv ct) ⟨us, []⟩ = pure (ps.zip us)) :
    Ok P w K mg base k x fn pars body sc ps (spL K n fun _ _ => none) := by
  obtain ⟨f, fd, e, F⟩ := a
  refine ⟨f, fd, e, F, FunD.bindsN F hbd, ⟨fun vs H Q E h => by rw [hn]; exact spL_len vs H Q E h, fun A outer s H args us vs Q hg hr he hb hv h => ?_⟩⟩
  obtain ⟨_, _, _, _, _, _, _, _, _, _, _, _, _, _, _, z, _⟩ := h
  cases z
end
/-- how many turns of a while are reckoned with -/
@[irreducible] def WF : Nat := 10 ^ 15
theorem wf_big : WF = 10 ^ 15 := by unfold WF; rfl
theorem fd_one {K : PySem.W.Frag} {x : Str} {pars : Arguments} {body : List Stmt} {sc : Scope} {f : Addr} {fd fd' : FuncData} (F : FunD K x x pars body sc [] [] f fd) (F' : FunD K x x pars body sc [] [] f fd') : fd = fd' := by
  obtain ⟨oc, od, dV, kV, doc, pm, an, cdv, ct, osl, rfl, lk, _⟩ := F.ex
  obtain ⟨oc', od', dV', kV', doc', pm', an', cdv', ct', osl', rfl, lk', _⟩ := F'.ex
  rw [lk] at lk'
  injection lk' with h
  injection h with h1 h2 h3 h4
  injection h3
theorem room65 {k : Nat} {A : Around} (r : Room k A) : A.units + 65 < cLine := by have := r.un; omega
end Jd
/-! Jd: list(range(..)), list(zip(..)) as new lists. -/
namespace Jd
open PySem PySem.Spec PyProof.Rows L2
section
variable {X : Cx} {a b e : Expr} {pos p p2 : Pos} {fa fb : En → Option (PyData × En)}
/-- what list(range(a, b)) makes -/
def lrD : PyData → PyData → Option (List PyData)
  | .int i, .int j => if small62 i && (small62 j && decide ((j - i).toNat ≤ 1000)) then some (rangeD i (j - i).toNat) else none
  | _, _ => none
def dLstR1 (fa : En → Option (PyData × En)) : En → Option (List PyData × En) := fun G => (fa G).bind fun r => (lrD (.int 0) r.1).bind fun ds => some (ds, r.2)
def dLstR2 (fa fb : En → Option (PyData × En)) : En → Option (List PyData × En) := fun G => (fa G).bind fun r => (fb r.2).bind fun q => (lrD r.1 q.1).bind fun ds => some (ds, q.2)
theorem lrD_ok {d1 d2 : PyData} {ds : List PyData} (h : lrD d1 d2 = some ds) : ∃ i j, d1 = .int i ∧ d2 = .int j ∧ RgOk i j ∧ ds = rangeD i (j - i).toNat := by
  unfold lrD at h
  split at h
  · rename_i i j
    split at h
    · rename_i c
      rw [Bool.and_eq_true, Bool.and_eq_true] at c
      obtain ⟨c1, c2, c3⟩ := c
      cases h
      have l1 := small62_of c1
      have l2 := small62_of c2
      have l3 := of_decide_eq_true c3
      exact ⟨i, j, rfl, rfl, ⟨l1.1, l1.2, l2.1, l2.2, by omega⟩, rfl⟩
    · cases h
  · cases h
theorem rg_all {K : PySem.W.Frag} {F : Hp} (i : Int) : ∀ (l : List Nat), DqAll K F (l.map fun k => V.int (i + (k : Nat))) (l.map fun k => PyData.int (i + (k : Nat)))
  | [] => .nil
  | k :: l => .cons (.int _) (rg_all i l)
theorem jn_lr1 (hg : Gl X "list") (hm : X.mg "list" = none) (hg2 : Gl X "range") (hm2 : X.mg "range" = none) (ha : JE X a fa) (hc : X.calm = true := by rfl)
    (na : starEach [a] X.env = (false, eval a X.env) :: starEach [] X.env := by rfl) (na2 : starEach [.Call (.Name "range" p2) [a] [] pos] X.env = (false, eval (.Call (.Name "range" p2) [a] [] pos) X.env) :: starEach [] X.env := by rfl) {q : Pos} :
    JN X (.Call (.Name "list" p) [.Call (.Name "range" p2) [a] [] pos] [] q) (dLstR1 fa) :=
  pe_im (pe_listRg hc hg hm (prg_1 hg2 hm2 ha na) na2) fun σ H Q ⟨B, F, G, ds, G', R, e, k⟩ => by
    obtain ⟨⟨d, G1⟩, e1, e2⟩ := Option.bind_eq_some_iff.mp e
    obtain ⟨es, e3, e4⟩ := Option.bind_eq_some_iff.mp e2
    cases e4
    obtain ⟨i, j, c1, c2, ok, rfl⟩ := lrD_ok e3
    cases c1
    dsimp only at c2
    subst c2
    refine ⟨B, F, G, _, _, R, e1, fun v F1 H1 R1 s1 q1 => ?_⟩
    cases q1
    exact ⟨j, rfl, ok, fun y ny => k y _ F1 _ (R1.lay ny) s1 (R1.same.free ny) upd_same (rg_all 0 _) (R1.newFree ny) (R1.newOwn ny)⟩
theorem jn_lr2 (hg : Gl X "list") (hm : X.mg "list" = none) (hg2 : Gl X "range") (hm2 : X.mg "range" = none) (ha : JE X a fa) (hb : JE X b fb) (hc : X.calm = true := by rfl)
    (na : starEach [a, b] X.env = (false, eval a X.env) :: starEach [b] X.env := by rfl) (nb : starEach [b] X.env = (false, eval b X.env) :: starEach [] X.env := by rfl) (pl : (backTo pos (starEach [b] X.env)).any (·.1) = false := by rfl)
    (na2 : starEach [.Call (.Name "range" p2) [a, b] [] pos] X.env = (false, eval (.Call (.Name "range" p2) [a, b] [] pos) X.env) :: starEach [] X.env := by rfl) {q : Pos} :
    JN X (.Call (.Name "list" p) [.Call (.Name "range" p2) [a, b] [] pos] [] q) (dLstR2 fa fb) :=
  pe_im (pe_listRg hc hg hm (prg_2 hg2 hm2 ha hb na nb pl) na2) fun σ H Q ⟨B, F, G, ds, G', R, e, k⟩ => by
    obtain ⟨⟨d, G1⟩, e1, e2⟩ := Option.bind_eq_some_iff.mp e
    obtain ⟨⟨d2, G2⟩, e3, e4⟩ := Option.bind_eq_some_iff.mp e2
    obtain ⟨es, e5, e6⟩ := Option.bind_eq_some_iff.mp e4
    cases e6
    obtain ⟨i, j, c1, c2, ok, rfl⟩ := lrD_ok e5
    dsimp only at c1 c2
    subst c1 c2
    refine ⟨B, F, G, _, _, R, e1, fun v F1 H1 R1 s1 q1 => ?_⟩
    cases q1
    refine ⟨B, F1, G1, _, _, R1, e3, fun v F2 H2 R2 s2 q2 => ?_⟩
    cases q2
    exact ⟨i, j, rfl, rfl, ok, fun y ny => k y _ F2 _ (R2.lay ny) (s1.trans s2) (R2.same.free ny) upd_same (rg_all i _) (R2.newFree ny) (R2.newOwn ny)⟩
end
/-! list(zip(xs, ys)) of two lists -/
theorem zip_nolen : typeLookup (.type "zip") "__len__" = pure none := am_miss_of_fast (by decide +kernel)
theorem zip_nohint : typeLookup (.type "zip") "__length_hint__" = pure none := am_miss_of_fast (by decide +kernel)
/-- the records of a zip whose pairs are gathered in the list S -/
def ZSt (z TI TO i1 i2 l1 l2 : Addr) (xs ys : Array Value) (S : Addr) (i : Nat) (h : Heap) : Prop :=
  IsPair h TI (.ref i1) (.ref i2) ∧ h.IsListIter i1 l1 i ∧ h.IsListIter i2 l2 i ∧ h.IsList l1 xs ∧ h.IsList l2 ys ∧
    ((IsZip h z TI TO .none ∧ ∃ a b, IsPair h TO a b) ∨ ∃ T f oT, IsZipHeld h z TI TO T f ∧ h.get? T = some oT ∧ T ≠ z ∧ T ≠ i1 ∧ T ≠ i2 ∧ T ≠ S)
/-- the pairs gathered -/
structure Gat (xs ys : Array Value) (lo : Addr) (h : Heap) (as : List Addr) : Prop where
  rise : as.Pairwise (· < ·)
  over : ∀ a ∈ as, lo < a
  pair : ∀ (j : Nat) (a : Addr), as[j]? = some a → ∃ x y, xs[j]? = some x ∧ ys[j]? = some y ∧ IsPair h a x y
section
variable {P : Program} {w : World} {A : Around} {E : Value → Shared → Prop} {s : Shared} {z TI TO i1 i2 l1 l2 S : Addr} {xs ys : Array Value}
theorem ZSt.at {i : Nat} {h h' : Heap} (st : ZSt z TI TO i1 i2 l1 l2 xs ys S i h) (n : z ≠ S ∧ TI ≠ S ∧ TO ≠ S ∧ i1 ≠ S ∧ i2 ≠ S ∧ l1 ≠ S ∧ l2 ≠ S) (e : ∀ c o, c ≠ S → h.get? c = some o → h'.get? c = some o) : ZSt z TI TO i1 i2 l1 l2 xs ys S i h' := by
  obtain ⟨a1, a2, a3, a4, a5, a6⟩ := st
  obtain ⟨n1, n2, n3, n4, n5, n6, n7⟩ := n
  refine ⟨e _ _ n2 a1, a2.at fun o => e _ o n4, a3.at fun o => e _ o n5, a4.at fun o => e _ o n6, a5.at fun o => e _ o n7, ?_⟩
  rcases a6 with ⟨q, x, y, r⟩ | ⟨T, f, oT, q, r, t⟩
  · exact .inl ⟨e _ _ n1 q, x, y, e _ _ n3 r⟩
  · exact .inr ⟨T, f, oT, e _ _ n1 q, e _ _ t.2.2.2 r, t⟩
theorem zl_item {i : Nat} {Q : Option Value → Shared → Prop} (D : ZipApart z TI TO i1 i2 l1 l2) (st : ZSt z TI TO i1 i2 l1 l2 xs ys S i s.heap) (hS : S < s.heap.objs.size) (hi : i < xs.size ∧ i < ys.size)
    (hQ : ∀ h' x y, xs[i]? = some x → ys[i]? = some y → ZSt z TI TO i1 i2 l1 l2 xs ys S (i + 1) h' → IsPair h' s.heap.objs.size x y → h'.objs.size = s.heap.objs.size + 1 → (∀ c o, c ∉ [z, TO, i1, i2] → s.heap.get? c = some o → h'.get? c = some o) → Q (some (.ref s.heap.objs.size)) { s with heap := h' }) :
    wpAny (model P w) A (pyNext (.ref z)) Q E s := by
  obtain ⟨tI, t1, t2, a1, a2, tz⟩ := st
  have ex := Array.getElem?_eq_getElem hi.1
  have ey := Array.getElem?_eq_getElem hi.2
  have far : ∀ {c o}, s.heap.get? c = some o → s.heap.objs.size ≠ c := fun e => Nat.ne_of_gt (Heap.lt_size e)
  have f1 : s.heap.objs.size ≠ i1 := by obtain ⟨_, e, _⟩ := t1; exact far e
  have f2 : s.heap.objs.size ≠ i2 := by obtain ⟨_, e, _⟩ := t2; exact far e
  rcases tz with ⟨tz, p0, q0, tO⟩ | ⟨T, f, oT, tz, hT, n1, n2, n3, n4⟩
  · refine wpAny_pyNext_zip_item D tz tI tO t1 t2 a1 a2 ex ey fun g b1 b2 b3 b4 b5 b6 kp => ?_
    have kp' : ∀ c o, c ∉ [z, TO, i1, i2] → s.heap.get? c = some o → g.get? c = some o := fun c o hc e => kp c o (fun q => hc (by simp [q])) (fun q => hc (by simp [q])) (fun q => hc (by simp [q])) (fun q => hc (by simp [q])) e
    exact hQ g _ _ ex ey ⟨kp _ _ D.TIz D.TITO D.TIi1 D.TIi2 tI, b3, b4, a1.at fun o e => kp _ o D.l1z D.l1TO D.l1i1 D.l1i2 e, a2.at fun o e => kp _ o D.l2z D.l2TO D.l2i1 D.l2i2 e,
      .inr ⟨_, false, _, b1, b5, far tz, f1, f2, Nat.ne_of_gt hS⟩⟩ b5 b6 kp'
  · refine wpAny_pyNext_zip_item_held D tz hT tI t1 t2 a1 a2 ex ey fun g b1 b3 b4 b5 b6 kp => ?_
    have kp' : ∀ c o, c ∉ [z, TO, i1, i2] → s.heap.get? c = some o → g.get? c = some o := fun c o hc e => kp c o (fun q => hc (by simp [q])) (fun q => hc (by simp [q])) (fun q => hc (by simp [q])) e
    exact hQ g _ _ ex ey ⟨kp _ _ D.TIz D.TIi1 D.TIi2 tI, b3, b4, a1.at fun o e => kp _ o D.l1z D.l1i1 D.l1i2 e, a2.at fun o e => kp _ o D.l2z D.l2i1 D.l2i2 e,
      .inr ⟨T, true, oT, b1, kp _ _ n1 n2 n3 hT, n1, n2, n3, n4⟩⟩ b5 b6 kp'
theorem zl_done {i : Nat} {Q : Option Value → Shared → Prop} (hh : A.handled = none) (D : ZipApart z TI TO i1 i2 l1 l2) (st : ZSt z TI TO i1 i2 l1 l2 xs ys S i s.heap) (hi : xs.size ≤ i ∨ ys.size ≤ i)
    (hQ : ∀ h', (∀ c o, c ∉ [z, TO, i1, i2] → s.heap.get? c = some o → h'.get? c = some o) → Q none { s with heap := h' }) : wpAny (model P w) A (pyNext (.ref z)) Q E s := by
  obtain ⟨tI, t1, t2, a1, a2, tz⟩ := st
  have fin : xs[i]? = none ∨ ys[i]? = none := hi.imp Array.getElem?_eq_none Array.getElem?_eq_none
  rcases tz with ⟨tz, p0, q0, tO⟩ | ⟨T, f, oT, tz, hT, n1, n2, n3, n4⟩
  · exact wpAny_pyNext_zip_end hh D tz tI tO t1 t2 a1 a2 fin fun g kp => hQ g fun c o hc e => kp c o (fun q => hc (by simp [q])) (fun q => hc (by simp [q])) (fun q => hc (by simp [q])) (fun q => hc (by simp [q])) e
  · exact wpAny_pyNext_zip_end_held hh D tz hT tI t1 t2 a1 a2 fin fun g kp => hQ g fun c o hc e => kp c o (fun q => hc (by simp [q])) (fun q => hc (by simp [q])) (fun q => hc (by simp [q])) e
theorem zl_loop {R : Result → Shared → Prop} (hh : A.handled = none) (D : ZipApart z TI TO i1 i2 l1 l2) (n : z ≠ S ∧ TI ≠ S ∧ TO ≠ S ∧ i1 ≠ S ∧ i2 ≠ S ∧ l1 ≠ S ∧ l2 ≠ S) (lo : z < S ∧ TO < S ∧ i1 < S ∧ i2 < S) (hn : min xs.size ys.size ≤ sizeLine) (res : Value) {h0 : Heap}
    (hR : ∀ h' tk acc c as, (∀ b o, b ≠ S → b ∉ [z, TO, i1, i2] → h0.get? b = some o → h'.get? b = some o) → h'.get? S = some { cls := .type "list", dict := none, data := .seq acc c, slots := #[] } → as.length = min xs.size ys.size → Gat xs ys S h' as →
      acc.toList = as.map Value.ref → R (.ok (.ret res)) { s with heap := h', toks := tk }) :
    ∀ (k i : Nat) (h : Heap) (tk c : Nat) (acc : Array Value) (as : List Addr), min xs.size ys.size - i = k → i ≤ min xs.size ys.size → ZSt z TI TO i1 i2 l1 l2 xs ys S i h → (∀ b o, b ≠ S → b ∉ [z, TO, i1, i2] → h0.get? b = some o → h.get? b = some o) →
      h.get? S = some { cls := .type "list", dict := none, data := .seq acc c, slots := #[] } → acc.toList = as.map Value.ref → as.length = i → Gat xs ys S h as →
      codeAny (model P w) A (.builtin "list.extend.loop" ⟨[.ref S, .ref z, res], []⟩) R { s with heap := h, toks := tk } := by
  have out : ∀ {b}, S < b → b ∉ [z, TO, i1, i2] := fun {b} hb q => by
    have : b = z ∨ b = TO ∨ b = i1 ∨ b = i2 := by simpa using q
    rcases this with q | q | q | q <;> subst q
    · exact Nat.lt_asymm hb lo.1
    · exact Nat.lt_asymm hb lo.2.1
    · exact Nat.lt_asymm hb lo.2.2.1
    · exact Nat.lt_asymm hb lo.2.2.2
  have outS : S ∉ [z, TO, i1, i2] := fun q => by
    have : S = z ∨ S = TO ∨ S = i1 ∨ S = i2 := by simpa using q
    rcases this with q | q | q | q
    · exact n.1 q.symm
    · exact n.2.2.1 q.symm
    · exact n.2.2.2.1 q.symm
    · exact n.2.2.2.2.1 q.symm
  intro k
  induction k with
  | zero =>
    intro i h tk c acc as hk hi st kp hS ea el g
    refine codeAny_builtin PySem.F.entry_extend_loop ?_
    rw [Around.under_plainId PySem.F.plain_extend_loop _]
    refine wpAny_bind (m := pyNext (.ref z)) (zl_done (A := A.in1) (s := { s with heap := h, toks := tk }) hh D st (by omega) fun h' e => ?_)
    refine wpAny_pure (hR h' tk acc c as (fun b o n1 n2 q => e b o n2 (kp b o n1 n2 q)) (e S _ outS hS) (by omega) ⟨g.rise, g.over, fun j a hj => ?_⟩ ea)
    obtain ⟨x, y, gx, gy, gp⟩ := g.pair j a hj
    exact ⟨x, y, gx, gy, e a _ (out (g.over a (List.mem_of_getElem? hj))) gp⟩
  | succ k ih =>
    intro i h tk c acc as hk hi st kp hS ea el g
    have sz : acc.size = i := by rw [← Array.length_toList, ea, List.length_map, el]
    refine codeAny_builtin PySem.F.entry_extend_loop ?_
    rw [Around.under_plainId PySem.F.plain_extend_loop _]
    have hSl : S < h.objs.size := Heap.lt_size hS
    refine wpAny_bind (m := pyNext (.ref z)) (zl_item (A := A.in1) (s := { s with heap := h, toks := tk }) D st hSl ⟨by omega, by omega⟩ fun h' x y gx gy st' np hz e => ?_)
    dsimp only at np hz e ⊢
    have hS' := e S _ outS hS
    have up : ∀ b o, b ≠ S → h'.get? b = some o → (h'.update S (Obj.mapSeq (·.push (Value.ref h.objs.size)))).get? b = some o := fun b o nb q => (Heap.get?_update_other _ _ (Ne.symm nb)).trans q
    refine wpAny_bind (m := updateSeq S (·.push (Value.ref h.objs.size))) ?_
    refine wpAny_updateSeq hS' rfl (wpAny_pure ⟨plainId_quiet PySem.F.plain_extend_loop _, ih (i + 1) _ tk _ (acc.push (Value.ref h.objs.size)) (as ++ [h.objs.size]) (by omega) (by omega) (st'.at n up)
      (fun b o n1 n2 q => up b o n1 (e b o n2 (kp b o n1 n2 q))) (Heap.get?_update_self _ hS' rfl) (by rw [Array.toList_push, ea, List.map_append]; rfl) (by rw [List.length_append, el]; rfl) ⟨?_, ?_, ?_⟩⟩) (by rw [sz]; omega) (by show (acc.push (Value.ref h.objs.size)).size ≤ sizeLine + 1; rw [Array.size_push, sz]; omega)
    · refine List.pairwise_append.mpr ⟨g.rise, List.pairwise_singleton _ _, fun a ha b hb => ?_⟩
      cases List.mem_singleton.mp hb
      obtain ⟨j, hj⟩ := List.mem_iff_getElem?.mp ha
      obtain ⟨_, _, _, _, gp⟩ := g.pair j a hj
      exact Heap.lt_size gp
    · intro a ha
      rcases List.mem_append.mp ha with q | q
      · exact g.over a q
      · cases List.mem_singleton.mp q; exact hSl
    · intro j b hj
      rcases Nat.lt_trichotomy j as.length with q | q | q
      · rw [List.getElem?_append_left q] at hj
        obtain ⟨x', y', r1, r2, r3⟩ := g.pair j b hj
        have hb := g.over b (List.mem_of_getElem? hj)
        exact ⟨x', y', r1, r2, up b _ (Nat.ne_of_gt hb) (e b _ (out hb) r3)⟩
      · subst q
        have hb : h.objs.size = b := by simpa using hj
        subst hb
        exact ⟨x, y, by rw [el]; exact gx, by rw [el]; exact gy, up _ _ (Nat.ne_of_gt hSl) np⟩
      · have no : (as ++ [h.objs.size])[j]? = none := List.getElem?_eq_none (by rw [List.length_append, List.length_singleton]; omega)
        rw [no] at hj; cases hj
theorem zl_hint (hT : s.TypeIs (.ref z) "zip") {Q : Bool → Shared → Prop} (h : Q true s) : wpAny (model P w) A (Builtin.List.listLengthHint (.ref z)) Q E s := by
  unfold Builtin.List.listLengthHint
  refine wpAny_bind (wpAny_specialOf hT zip_nolen ?_)
  refine wpAny_bind (wpAny_specialOf hT zip_nohint ?_)
  exact wpAny_pure h
theorem zl_extend {R : Result → Shared → Prop} (hh : A.handled = none) (D : ZipApart z TI TO i1 i2 l1 l2) (n : z ≠ S ∧ TI ≠ S ∧ TO ≠ S ∧ i1 ≠ S ∧ i2 ≠ S ∧ l1 ≠ S ∧ l2 ≠ S) (lo : z < S ∧ TO < S ∧ i1 < S ∧ i2 < S) (hn : min xs.size ys.size ≤ sizeLine)
    (tz : ∃ v, IsZip s.heap z TI TO v) (st : ZSt z TI TO i1 i2 l1 l2 xs ys S 0 s.heap) (c0 : Nat) (hS : s.heap.get? S = some { cls := .type "list", data := .seq #[] c0 })
    (hR : ∀ h' tk acc c as, (∀ b o, b ≠ S → b ∉ [z, TO, i1, i2] → s.heap.get? b = some o → h'.get? b = some o) → h'.get? S = some { cls := .type "list", dict := none, data := .seq acc c, slots := #[] } → as.length = min xs.size ys.size → Gat xs ys S h' as →
      acc.toList = as.map Value.ref → R (.ok (.ret .none)) { s with heap := h', toks := tk }) :
    wpAny (model P w) A.in1 (Builtin.List.listExtendWith (.ref S) (.ref z) .none) (fun fin t => match fin with | .done f => R (.ok f) t | .again d => d.quiet = true ∧ codeAny (model P w) A d R t) (fun e t => R (.error e) t) s := by
  obtain ⟨v, tz⟩ := tz
  have key : ∀ (h : Heap) (c tk : Nat), (∀ b o, b ≠ S → s.heap.get? b = some o → h.get? b = some o) → h.get? S = some { cls := .type "list", data := .seq #[] c } →
      codeAny (model P w) A (.builtin "list.extend.loop" ⟨[.ref S, .ref z, .none], []⟩) R { s with heap := h, toks := tk } := fun h c tk kp hS1 =>
    zl_loop (s := s) (h0 := s.heap) hh D n lo hn .none hR _ 0 h tk c #[] [] rfl (Nat.zero_le _) (st.at n fun b o nb => kp b o nb) (fun b o nb _ => kp b o nb) hS1 rfl rfl ⟨.nil, (fun a ha => nomatch ha), (fun j a hj => by simp at hj)⟩
  have zT : s.TypeIs (.ref z) "zip" := ⟨_, tz, rfl⟩
  have q1 : Builtin.List.listSameRef (.ref S) (.ref z) = false := by simp [Builtin.List.listSameRef, n.1.symm]
  have q2 : (Value.type "zip" == Value.type "list") = false ∧ (Value.type "zip" == Value.type "tuple") = false := ⟨by decide, by decide⟩
  unfold Builtin.List.listExtendWith
  refine wpAny_bind (wpAny_typeOf zT ?_)
  simp only [q1, q2.1, q2.2, Bool.or_false, Bool.false_eq_true, if_false]
  refine wpAny_bind (wpAny_pyIter_zip tz (wpAny_bind (wpAny_holding (zl_hint zT ?_))))
  refine wpAny_ite_split (fun _ => wpAny_bind (wpAny_rule (wpAny_bind ?_))) fun q => absurd rfl q
  show wpAny _ _ (updateSeq S (·.push .none) >>= fun _ => updateSeq S (·.pop)) _ _ _
  refine wpAny_bind (wpAny_updateSeq hS rfl ?_)
  have hS2 := Heap.get?_update_self (Obj.mapSeq (·.push Value.none)) hS rfl
  refine wpAny_updateSeq (hz := by seq_fits) hS2 rfl (wpAny_pure ⟨plainId_quiet PySem.F.plain_extend_loop _, key _ _ _ (fun b o nb e => ?_) (Heap.get?_update_self (Obj.mapSeq (·.pop)) hS2 rfl)⟩)
  exact (Heap.get?_update_other _ _ (Ne.symm nb)).trans ((Heap.get?_update_other _ _ (Ne.symm nb)).trans e)
theorem zl_call {Q : Value → Shared → Prop} (hh : A.handled = none) (D : ZipApart z TI TO i1 i2 l1 l2) (tz : IsZip s.heap z TI TO .none) (tI : IsPair s.heap TI (.ref i1) (.ref i2)) (tO : ∃ a b, IsPair s.heap TO a b)
    (t1 : s.heap.IsListIter i1 l1 0) (t2 : s.heap.IsListIter i2 l2 0) (a1 : s.heap.IsList l1 xs) (a2 : s.heap.IsList l2 ys) (hn : min xs.size ys.size ≤ sizeLine)
    (hQ : ∀ h' tk acc c as, (∀ b o, b ∉ [z, TO, i1, i2] → s.heap.get? b = some o → h'.get? b = some o) → h'.get? s.heap.objs.size = some { cls := .type "list", dict := none, data := .seq acc c, slots := #[] } → as.length = min xs.size ys.size → Gat xs ys s.heap.objs.size h' as →
      acc.toList = as.map Value.ref → Q (.ref s.heap.objs.size) { s with heap := h', toks := tk }) : wpAny (model P w) A (call (.type "list") [.ref z]) Q E s := by
  have lz := Heap.lt_size tz
  have lI := Heap.lt_size tI
  obtain ⟨va, vb, tO⟩ := tO
  have lO := Heap.lt_size tO
  have k1 : i1 < s.heap.objs.size := by obtain ⟨_, e, _⟩ := t1; exact Heap.lt_size e
  have k2 : i2 < s.heap.objs.size := by obtain ⟨_, e, _⟩ := t2; exact Heap.lt_size e
  have k3 : l1 < s.heap.objs.size := by obtain ⟨_, e, _⟩ := a1; exact Heap.lt_size e
  have k4 : l2 < s.heap.objs.size := by obtain ⟨_, e, _⟩ := a2; exact Heap.lt_size e
  have ne : z ≠ s.heap.objs.size ∧ TI ≠ s.heap.objs.size ∧ TO ≠ s.heap.objs.size ∧ i1 ≠ s.heap.objs.size ∧ i2 ≠ s.heap.objs.size ∧ l1 ≠ s.heap.objs.size ∧ l2 ≠ s.heap.objs.size :=
    ⟨Nat.ne_of_lt lz, Nat.ne_of_lt lI, Nat.ne_of_lt lO, Nat.ne_of_lt k1, Nat.ne_of_lt k2, Nat.ne_of_lt k3, Nat.ne_of_lt k4⟩
  refine callType_codes (Q₁ := fun v t => v = .ref s.heap.objs.size ∧ t = { s with heap := s.heap.push { cls := .type "list", data := .seq #[] } }) PySem.F.called_list (PySem.F.typeCall_list_1 _) PySem.F.entry_list_init (code_list_new _ ⟨rfl, rfl⟩) ?_
  rintro _ _ ⟨rfl, rfl⟩
  have hS : (s.heap.push { cls := .type "list", data := .seq #[] }).get? s.heap.objs.size = some { cls := .type "list", data := .seq #[] } := Heap.get?_push_size _ rfl
  have up : ∀ b o, s.heap.get? b = some o → (s.heap.push { cls := .type "list", data := .seq #[] }).get? b = some o := fun b o e => Heap.get?_push_of_some _ e
  refine ⟨⟨_, hS, rfl⟩, PySem.F.args_list_init_2 _ _, ?_⟩
  show wpAny _ _ (do let old ← Builtin.List.listItems (.ref s.heap.objs.size); Builtin.List.listUpdate (.ref s.heap.objs.size) (fun _ => #[]); letGo old.toList.reverse; Builtin.List.listExtendWith (.ref s.heap.objs.size) (.ref z) .none) _ _ _
  refine wpAny_bind ?_
  unfold Builtin.List.listItems
  refine wpAny_bind (wpAny_seqItems hS rfl (wpAny_pure ?_))
  refine wpAny_bind (m := updateSeq s.heap.objs.size (fun _ => #[])) (wpAny_updateSeq hS rfl ?_)
  have hS2 := Heap.get?_update_self (Obj.mapSeq (fun _ => (#[] : Array Value))) hS rfl
  have oth : ∀ b o, b ≠ s.heap.objs.size → s.heap.get? b = some o → ((s.heap.push { cls := .type "list", data := .seq #[] }).update s.heap.objs.size (Obj.mapSeq (fun _ => (#[] : Array Value)))).get? b = some o :=
    fun b o nb e => (Heap.get?_update_other _ _ (Ne.symm nb)).trans (up b o e)
  refine wpAny_bind (m := letGo _) (wpAny_letGo ?_)
  refine zl_extend (xs := xs) (ys := ys) hh D ne ⟨lz, lO, k1, k2⟩ hn ⟨_, oth z _ ne.1 tz⟩ ⟨oth _ _ ne.2.1 tI, t1.at fun o => oth _ o ne.2.2.2.1, t2.at fun o => oth _ o ne.2.2.2.2.1, a1.at fun o => oth _ o ne.2.2.2.2.2.1, a2.at fun o => oth _ o ne.2.2.2.2.2.2,
    .inl ⟨oth _ _ ne.1 tz, va, vb, oth _ _ ne.2.2.1 tO⟩⟩ _ hS2 fun h' tk acc c as kp hS' hl hG ea => ⟨rfl, hQ h' tk acc c as (fun b o nb e => kp b o (Nat.ne_of_lt (Heap.lt_size e)) nb (oth b o (Nat.ne_of_lt (Heap.lt_size e)) e)) hS' hl hG ea⟩
end
/-- pairs put at their addresses -/
def putP : Hp → List (Addr × V × V) → Hp
  | H, [] => H
  | H, q :: r => putP (upd H q.1 (.tup [q.2.1, q.2.2])) r
theorem putP_off {b : Addr} : ∀ (l : List (Addr × V × V)) (H : Hp), b ∉ l.map (·.1) → putP H l b = H b
  | [], _, _ => rfl
  | q :: r, H, h => by
    show putP (upd H q.1 _) r b = H b
    rw [putP_off r _ fun m => h (List.mem_cons_of_mem _ m), upd_ne fun e => h (by rw [e]; exact List.mem_cons_self)]
theorem putP_at {q : Addr × V × V} : ∀ (l : List (Addr × V × V)) (H : Hp), (l.map (·.1)).Nodup → q ∈ l → putP H l q.1 = some (.tup [q.2.1, q.2.2])
  | p :: r, H, nd, h => by
    have nd' := List.nodup_cons.mp nd
    rcases List.mem_cons.mp h with e | e
    · subst e
      show putP (upd H q.1 _) r q.1 = _
      rw [putP_off r _ nd'.1, upd_same]
    · exact putP_at r _ nd'.2 e
theorem zip_fst {as : List Addr} {xs ys : List V} (h : as.length = min xs.length ys.length) : (as.zip (xs.zip ys)).map (·.1) = as := List.map_fst_zip (by rw [List.length_zip]; omega)
theorem refs_vals : ∀ as : List Addr, Vals (as.map V.ref) (as.map Value.ref)
  | [] => .nil
  | _ :: r => .cons rfl (refs_vals r)
theorem zip_grow {K : PySem.W.Frag} : ∀ {as : List Addr} {xs ys : List V} {ds es : List PyData} {F H : Hp}, as.length = min xs.length ys.length → Same F H → DqAll K F xs ds → DqAll K F ys es → (∀ a ∈ as, H a = none) → as.Nodup →
    ∃ F', Grow F H F' (putP H (as.zip (xs.zip ys))) ∧ DqAll K F' (as.map V.ref) (zipD ds es)
  | [], [], _, _, _, F, H, _, s, .nil, _, _, _ => ⟨F, .refl s, by unfold zipD; exact .nil⟩
  | [], _ :: _, [], _, _, F, H, _, s, .cons _ _, .nil, _, _ => ⟨F, .refl s, by unfold zipD; exact .nil⟩
  | [], _ :: _, _ :: _, _, _, _, _, h, _, _, _, _, _ => by simp at h
  | _ :: _, [], _, _, _, _, _, h, _, _, _, _, _ => by simp at h
  | _ :: _, _ :: _, [], _, _, _, _, h, _, _, _, _, _ => by simp at h
  | a :: r, x :: xs, y :: ys, _, _, F, H, h, s, .cons qx px, .cons qy py, fr, nd => by
    have nd' := List.nodup_cons.mp nd
    have na := fr a List.mem_cons_self
    obtain ⟨F1, g1, q1⟩ := pair_ok s na qx qy
    have fr' : ∀ b ∈ r, upd H a (.tup [x, y]) b = none := fun b hb => by
      rw [upd_ne fun e => nd'.1 (by rw [← e]; exact hb)]
      exact fr b (List.mem_cons_of_mem _ hb)
    obtain ⟨F2, g2, q2⟩ := zip_grow (as := r) (xs := xs) (ys := ys) (by simp at h; omega) g1.fh (dpAll_mono g1.f px) (dpAll_mono g1.f py) fr' nd'.2
    have s2 : Same F1 F2 := g2.f
    refine ⟨F2, ⟨g1.h.trans g2.h, g1.f.trans g2.f, g2.fh, fun b o e => ?_⟩, .cons (dp_mono s2 q1) q2⟩
    rcases g2.new b o e with e1 | e1
    · exact g1.new b o e1
    · refine .inr ?_
      cases hb : H b with
      | none => rfl
      | some u => rw [g1.h b u hb] at e1; cases e1
section
variable {X : Cx} {pins : List (Addr × Obj)} {σ : L2.St} {H : Hp} {s : Shared} {h' : Heap} {xs ys : List V} {us vs : List Value} {S : Addr} {as : List Addr} {acc : Array Value} {c tk : Nat}
theorem zip_laid (I : Inv X pins σ H s) (kp : ∀ b o, s.heap.get? b = some o → h'.get? b = some o) (lo : s.heap.objs.size ≤ S) (hS : h'.get? S = some { cls := .type "list", dict := none, data := .seq acc c, slots := #[] }) (rx : Vals xs us) (ry : Vals ys vs)
    (g : Gat us.toArray vs.toArray S h' as) (el : as.length = min xs.length ys.length) (ea : acc.toList = as.map Value.ref) (hz : as.length ≤ sizeLine) :
    Inv X pins σ (upd (putP H (as.zip (xs.zip ys))) S (.lst (as.map V.ref))) { s with heap := h', toks := tk } := by
  have nd : ((as.zip (xs.zip ys)).map (·.1)).Nodup := by rw [zip_fst el]; exact List.Pairwise.imp (fun {a b} (h : a < b) => Nat.ne_of_lt h) g.rise
  have fresh : ∀ a ∈ as, H a = none := fun a ha => I.hok.fresh (Nat.le_trans lo (Nat.le_of_lt (g.over a ha)))
  have freshS : H S = none := I.hok.fresh lo
  have off : ∀ b, b ≠ S → b ∉ as → upd (putP H (as.zip (xs.zip ys))) S (.lst (as.map V.ref)) b = H b := fun b n m => by
    rw [upd_ne n, putP_off _ _ (by rw [zip_fst el]; exact m)]
  have keep : ∀ b u, H b = some u → upd (putP H (as.zip (xs.zip ys))) S (.lst (as.map V.ref)) b = some u := fun b u e => by
    rw [off b (fun q => by rw [q, freshS] at e; cases e) fun q => by rw [fresh b q] at e; cases e]
    exact e
  refine I.call' (ch := []) rfl ⟨fun b o q _ _ _ => kp b o q, fun b o q _ _ _ => ⟨o.slots, kp b o q⟩, fun b o q n _ => ?_, fun b o q _ => ⟨o, kp b o q⟩, fun b l q => keep b _ q, fun b o u q => keep b _ q, fun b l q => ⟨#[], by rw [keep b _ q]; simp⟩⟩ (fun b u q => ?_) I.bare fun b m => by simp at m
  · have bl := Heap.lt_size q
    rw [off b (Nat.ne_of_lt (Nat.lt_of_lt_of_le bl lo)) fun m => Nat.lt_irrefl _ (Nat.lt_trans (Nat.lt_of_lt_of_le bl lo) (g.over b m))]
    exact n
  · by_cases hb : b = S
    · subst hb
      rw [upd_same] at q
      cases q
      exact ⟨by rw [List.length_map]; exact hz, acc.toList, c, by rw [ea]; exact refs_vals as, by rw [Array.toArray_toList]; exact hS⟩
    · by_cases hm : b ∈ as
      · obtain ⟨j, hj⟩ := List.mem_iff_getElem?.mp hm
        obtain ⟨u1, v1, gu, gv, gp⟩ := g.pair j b hj
        have jl := (List.getElem?_eq_some_iff.mp hj).1
        have e1 := rx.length
        have e2 := ry.length
        have jx : j < xs.length := by omega
        have jy : j < ys.length := by omega
        have mem : (b, xs[j], ys[j]) ∈ as.zip (xs.zip ys) := by
          refine List.mem_iff_getElem?.mpr ⟨j, ?_⟩
          rw [List.getElem?_zip_eq_some, List.getElem?_zip_eq_some]
          exact ⟨hj, List.getElem?_eq_getElem jx, List.getElem?_eq_getElem jy⟩
        have at1 := putP_at _ H nd mem
        rw [upd_ne hb] at q
        rw [at1] at q
        cases q
        obtain ⟨u2, gu2, ru⟩ := rx.get (List.getElem?_eq_getElem jx)
        obtain ⟨v2, gv2, rv⟩ := ry.get (List.getElem?_eq_getElem jy)
        have gu' : us[j]? = some u1 := by simpa using gu
        have gv' : vs[j]? = some v1 := by simpa using gv
        cases gu'.symm.trans gu2
        cases gv'.symm.trans gv2
        exact ⟨(by decide : 2 ≤ sizeLine), [u1, v1], .cons ru (.cons rv .nil), ⟨_, gp, rfl, _, rfl⟩⟩
      · rw [off b hb hm] at q
        exact (I.hok b u q).stay (fun d v _ y => kp d v y) (fun d y => keep d _ y) fun d l y => keep d _ y
end
section
variable {X : Cx} {a b : Expr} {p p2 pos pos2 : Pos}
def tLz (K : PySem.W.Frag) (ta : TA) : TE := fun σ H Q => ta σ H fun vs G => ∃ l m xs ys, vs = [.ref l, .ref m] ∧ SqL K G l xs ∧ SqL K G m ys ∧ min xs.length ys.length ≤ sizeLine ∧
  ∀ (S : Addr) (as : List Addr), as.length = min xs.length ys.length → (∀ t ∈ as, G t = none) → as.Nodup → S ∉ as → G S = none → Q (.ref S) (upd (putP G (as.zip (xs.zip ys))) S (.lst (as.map V.ref)))
theorem pe_lz {ta : TA} (hg : Gl X "list") (hm : X.mg "list" = none) (hg2 : Gl X "zip") (hm2 : X.mg "zip" = none) (ha : PA X [a, b] ta) (hc : X.calm = true := by rfl)
    (st : starEach [a, b] X.env = (false, eval a X.env) :: starEach [b] X.env := by rfl) (pl : (backTo pos2 (starEach [b] X.env)).any (·.1) = false := by rfl)
    (na2 : starEach [.Call (.Name "zip" p2) [a, b] [] pos2] X.env = (false, eval (.Call (.Name "zip" p2) [a, b] [] pos2) X.env) :: starEach [] X.env := by rfl) :
    PE X (.Call (.Name "list" p) [.Call (.Name "zip" p2) [a, b] [] pos2] [] pos) (tLz X.K ta) := ⟨fun pins s σ H Q I h => by
  refine Call_ (ld_blt I hg hm boot_list (PyProof.Rows.callWith_type1 (args_cons ?_ na2) na2))
  refine Call_ (ld_blt I hg2 hm2 PyProof.Rows.boot_zip (PyProof.Rows.callWith_type1 (thn (ha.run pos2 pins s σ H _ I h) fun us s1 ⟨vs, G, I1, r1, l, m, xs, ys, ev, sx, sy, hz, q⟩ => ?_) st pl))
  subst ev
  obtain ⟨v1, v2, rfl, r1, r2⟩ : ∃ v1 v2, us = [v1, v2] ∧ RelV (.ref l) v1 ∧ RelV (.ref m) v2 := by
    cases r1 with
    | cons r rr => cases rr with
      | cons r' rr => cases rr; exact ⟨_, _, rfl, r, r'⟩
  cases r1
  cases r2
  obtain ⟨ps, rx, ax, _⟩ := I1.list sx
  obtain ⟨qs, ry, ay, _⟩ := I1.list sy
  refine call_zip_2 ax.isList ay.isList fun g tz tI tO t1 t2 gz old => args_nil ?_
  have e1 := rx.length
  have e2 := ry.length
  refine zl_call (xs := ps.toArray) (ys := qs.toArray) (I1.ok.hd hc) (PySem.W.ktu_apart s1.heap.objs.size l m ax.lt ay.lt) tz tI ⟨_, _, tO⟩ t1 t2 (ax.isList.at fun o => old _ o) (ay.isList.at fun o => old _ o) (by simp; omega) fun h' tk acc c as kp hS hl hG ea => ?_
  have sz : s1.heap.objs.size ≤ g.objs.size := by rw [gz]; exact Nat.le_add_right _ _
  have kp' : ∀ b o, s1.heap.get? b = some o → h'.get? b = some o := fun b o e => kp b o (fun q => by
    have bl := Heap.lt_size e
    have q' : b = s1.heap.objs.size + 4 ∨ b = s1.heap.objs.size + 3 ∨ b = s1.heap.objs.size ∨ b = s1.heap.objs.size + 1 := by simpa using q
    rcases q' with z | z | z | z <;> rw [z] at bl
    · exact absurd bl (Nat.not_lt.mpr (Nat.le_add_right _ _))
    · exact absurd bl (Nat.not_lt.mpr (Nat.le_add_right _ _))
    · exact absurd bl (Nat.lt_irrefl _)
    · exact absurd bl (Nat.not_lt.mpr (Nat.le_add_right _ _))) (old b o e)
  have el : as.length = min xs.length ys.length := by rw [hl]; simp; omega
  refine ⟨.ref g.objs.size, _, zip_laid (s := s1) (tk := tk) I1 kp' sz hS rx ry hG el ea (by omega), rfl, q _ as el (fun t ht => I1.hok.fresh (Nat.le_trans sz (Nat.le_of_lt (hG.over t ht)))) (List.Pairwise.imp (fun {a b} (h : a < b) => Nat.ne_of_lt h) hG.rise) (fun z => Nat.lt_irrefl _ (hG.over _ z)) (I1.hok.fresh sz)⟩⟩
/-- what list(zip(..)) makes -/
def lzD : List PyData → Option (List PyData)
  | [.list xs, .list ys] => if xs.length ≤ 1000 then some (zipD xs ys) else none
  | _ => none
def dLstZ (fs : En → Option (List PyData × En)) : En → Option (List PyData × En) := fun G => (fs G).bind fun r => (lzD r.1).bind fun ds => some (ds, r.2)
theorem jn_lz {fs : En → Option (List PyData × En)} (hg : Gl X "list") (hm : X.mg "list" = none) (hg2 : Gl X "zip") (hm2 : X.mg "zip" = none) (ha : JEs X [a, b] fs) (hc : X.calm = true := by rfl)
    (st : starEach [a, b] X.env = (false, eval a X.env) :: starEach [b] X.env := by rfl) (pl : (backTo pos2 (starEach [b] X.env)).any (·.1) = false := by rfl)
    (na2 : starEach [.Call (.Name "zip" p2) [a, b] [] pos2] X.env = (false, eval (.Call (.Name "zip" p2) [a, b] [] pos2) X.env) :: starEach [] X.env := by rfl) :
    JN X (.Call (.Name "list" p) [.Call (.Name "zip" p2) [a, b] [] pos2] [] pos) (dLstZ fs) := pe_im (pe_lz hg hm hg2 hm2 ha hc st pl na2) fun σ H Q ⟨B, F, G, ds, G', R, e, k⟩ => by
  obtain ⟨⟨ps, G1⟩, e1, e2⟩ := Option.bind_eq_some_iff.mp e
  obtain ⟨es, e3, e4⟩ := Option.bind_eq_some_iff.mp e2
  cases e4
  dsimp only at e3
  unfold lzD at e3
  split at e3
  · rename_i d1 d2
    split at e3
    · rename_i hl
      cases e3
      refine ⟨B, F, G, _, _, R, e1, fun vs F1 H1 R1 s1 q1 => ?_⟩
      obtain ⟨v, w, rfl, qv, qw⟩ := dq2 q1
      clear q1
      cases qv with
      | @lst l us _ h1 q1 =>
        cases qw with
        | @lst m ws _ h2 q2 =>
          have len1 := dp_len q1
          have big1 : (1000 : Nat) ≤ sizeLine := by decide
          refine ⟨l, m, us, ws, rfl, (Same.ls R1.same h1).sq, (Same.ls R1.same h2).sq, by omega, fun S as el fr nd nS fS => ?_⟩
          obtain ⟨F2, g, q⟩ := zip_grow el R1.same q1 q2 fr nd
          have R2 := R1.grow g
          have nS2 : putP H1 (as.zip (us.zip ws)) S = none := by rw [putP_off _ _ (by rw [zip_fst el]; exact nS)]; exact fS
          exact k S _ F2 _ (R2.lay nS2) (s1.trans g.f) (R2.same.free nS2) upd_same q (R2.newFree nS2) (R2.newOwn nS2)
    · cases e3
  · cases e3
end
/-! x.extend(y), y any list -/
theorem mt_extR {X : Cx} : MtM X "list.extend" (rExtendR X.K) := fun pins s σ H x vs v us Q I rx rv h => by
  obtain ⟨l, b, xs, zs, rfl, rfl, hH, hB, hz, q⟩ := h
  cases rx
  obtain ⟨u, rfl, ru⟩ := rv.one
  cases ru
  obtain ⟨_, ps, n, r, hl, e⟩ := I.lstM hH
  obtain ⟨_, qs, m, r2, hl2, e2⟩ := rd_at I hB
  have sz : ps.toArray.size + qs.toArray.size ≤ sizeLine := by rw [List.size_toArray, List.size_toArray]; omega
  have long : ¬ (!ps.toArray.isEmpty && Builtin.List.listTooLong (ps.toArray.size + qs.toArray.size)) = true := by
    rw [notLongL sz, Bool.and_false]; exact Bool.false_ne_true
  refine call_meets PySem.F.slot_list_extend ⟨_, e, rfl⟩ PySem.F.entry_list_extend (PySem.F.args_list_extend_2 _ _) (AutoSeq1.list_extend_list_list_0 l ps.toArray n b qs.toArray m long (by rw [List.size_toArray]; omega) (by omega)) ⟨e, e2, ?_⟩
  exact ⟨.non, _, I.lset (its' := ps ++ qs) hH e (by simp) (r.append r2) (by rw [List.length_append]; omega), rfl, q⟩
/-! new lists by cases, by calls that change a list -/
def dIfN (ft : En → Option (Bool × En)) (fa fb : En → Option (List PyData × En)) : En → Option (List PyData × En) := fun G => (ft G).bind fun r => if r.1 = true then fa r.2 else fb r.2
theorem jn_if {X : Cx} {a b c : Expr} {pos : Pos} {ft : En → Option (Bool × En)} {f g : En → Option (List PyData × En)} (ht : JT X c ft) (ha : JN X a f) (hb : JN X b g) : JN X (.IfExp c a b pos) (dIfN ft f g) := pe_im (pe_ifExp ht ha hb) fun σ H Q ⟨B, F, G, ds, G', R, e, k⟩ => by
  obtain ⟨⟨x, G1⟩, e1, e⟩ := Option.bind_eq_some_iff.mp e
  refine ⟨B, F, G, x, G1, R, e1, fun F1 H1 R1 s1 => ?_⟩
  cases x with
  | true => exact ⟨B, F1, G1, ds, G', R1, e, fun y ws F2 H2 R2 s2 => k y ws F2 H2 R2 (s1.trans s2)⟩
  | false => exact ⟨B, F1, G1, ds, G', R1, e, fun y ws F2 H2 R2 s2 => k y ws F2 H2 R2 (s1.trans s2)⟩
def newOf : Rv → Option (List PyData)
  | .new zs => some zs
  | .dat _ => none
def dCallLv (n : Nat) (g : List PyData → List PyData → Option (Rv × List PyData)) (i : Nat) (fs : En → Option (List PyData × En)) : En → Option (List PyData × En) := fun G => if isOwn G[i]? = true then (fs G).bind fun r => match r.2[i]? with
  | some (.own io pp) => if r.1.length = n then (g pp r.1).bind fun z => (newOf z.1).bind fun zs => some (zs, r.2.set i (.own io z.2)) else none
  | _ => none
  else none
theorem jn_callL {X : Cx} {e : Expr} {n : Nat} (i : Nat) {g : List PyData → List PyData → Option (Rv × List PyData)} {fs : En → Option (List PyData × En)} (h : PE X e (fun σ H Q => tCons (tVar i) (tJs X.K fs) σ H fun vs H1 => spL X.K n g vs H1 Q E0)) : JN X e (dCallLv n g i fs) := pe_im h fun σ H Q ⟨B, F, G, d, G', R, e, k⟩ => by
  unfold dCallLv at e
  split at e
  · rename_i ho
    obtain ⟨a, vs0, ea, l0⟩ := R.isOwn ho
    obtain ⟨⟨ds, G1⟩, e1, e2⟩ := Option.bind_eq_some_iff.mp e
    dsimp only at e2
    split at e2
    · rename_i io pp eg
      split at e2
      · rename_i hl
        obtain ⟨⟨z, pp'⟩, e3, e4⟩ := Option.bind_eq_some_iff.mp e2
        obtain ⟨zs, e5, e6⟩ := Option.bind_eq_some_iff.mp e4
        cases e6
        cases z with
        | dat d => cases e5
        | new zs2 =>
          have e7 : zs2 = d := Option.some.inj e5
          subst e7
          refine ⟨_, ea, B, F, G, ds, G1, R, e1, fun vs F1 H1 R1 s1 q1 => ?_⟩
          obtain ⟨b, us, eb, pb, nb, lb, qb⟩ := R1.own eg
          rw [ea] at eb
          cases eb
          refine ⟨F1, a, us, vs, pp, ds, .new zs2, pp', rfl, R1.same, nb, lb, qb, q1, hl, e3, fun v F' H' us' sF fh sH new l' q' rv => ?_⟩
          have R' := R1.changeG eg ea sF sH fh new l' q'
          obtain ⟨c, ws, rfl, hn, nF, l, q2⟩ := rv
          refine k c ws F' H' R' (s1.trans sF) nF l q2 (R1.newFree hn) fun j ⟨⟨jo, zz, h1⟩, ej⟩ => ?_
          by_cases hj : i = j
          · subst hj
            rw [ea] at ej
            cases ej
            rw [lb] at hn
            cases hn
          · rw [List.getElem?_set_ne hj] at h1
            exact R1.newOwn hn j ⟨⟨jo, zz, h1⟩, ej⟩
      · cases e2
    · cases e2
  · cases e
theorem jn_okL {X : Cx} {j k n : Nat} {x y fn : Str} {pars : Arguments} {body : List Stmt} {sc : Scope} {ps : List Str} {p p2 pos : Pos} {es : List Expr} (i : Nat) {g : List PyData → List PyData → Option (Rv × List PyData)} {fs : En → Option (List PyData × En)} (h : Ok X.prog X.w X.K X.mg X.base j x fn pars body sc ps (spL X.K n g)) (hg : X.A.guards = some []) (hr : Room k X.A) (hx : Gl X x)
    (hv : PE X (.Name y p2) (tVar i)) (ha : JEs X es fs) (hj : j ≤ k := by decide) (hdb : (x == ("__debug__" : Str)) = false := by decide) (he : starEach (.Name y p2 :: es) X.env = (false, eval (.Name y p2) X.env) :: starEach es X.env := by rfl) (hpl : (backTo pos (starEach es X.env)).any (·.1) = false := by rfl) :
    JN X (.Call (.Name x p) (.Name y p2 :: es) [] pos) (dCallLv n g i fs) := by
  obtain ⟨f, fd, hm, F, B, G⟩ := h.ex
  exact jn_callL i (pe_callG G hg (hr.mono hj) hx hm F.kp B (pa_cons hv ha he) hdb he hpl)
end Jd
/-! Jd: xs[::-1] of lists and tuples. -/
namespace Jd
open PySem PySem.Spec PyProof.Rows L2
section
variable {prog : Program} {w : World} {A : Around} {E : Value → Shared → Prop} {s : Shared}
theorem places_rev (n : Nat) : Builtin.Slice.slicePlaces ((n : Int) - 1) (-1) (-1) = n := by
  unfold Builtin.Slice.slicePlaces
  rw [if_neg (by decide)]
  by_cases h : n = 0
  · subst h
    rfl
  · rw [if_pos (by omega), show ((n : Int) - 1 - -1 - 1) = (n : Int) - 1 by omega, show (- -1 : Int) = 1 from rfl, Int.ediv_one]
    omega
theorem applied_rev {sl : Addr} {vl vu vk : Value} {n : Nat} {Q : Int × Int × Nat → Shared → Prop} (hs : s.heap.IsSliceOf sl vl vu vk) (pl : IsPart vl none) (pu : IsPart vu none) (pk : IsPart vk (some (-1)))
    (h : Q ((n : Int) - 1, -1, n) s) : wpAny (model prog w) A (Builtin.Slice.sliceApplied (.ref sl) (pure (n : Int))) Q E s := by
  obtain ⟨os, hos, hcs, hds⟩ := id hs
  unfold Builtin.Slice.sliceApplied Builtin.Slice.sliceFields
  refine wpAny_bind (wpAny_bind (wpAny_field hos hds (x := vl) rfl (wpAny_bind (wpAny_field hos hds (x := vu) rfl (wpAny_bind (wpAny_field hos hds (x := vk) rfl (wpAny_pure ?_)))))))
  refine wpAny_bind (HT.slicePart_ pk ?_)
  show wpAny _ _ (if ((-1 : Int) == 0) = true then _ else _) _ _ s
  rw [if_neg (by decide)]
  refine wpAny_bind (HT.slicePart_ pl (wpAny_bind (HT.slicePart_ pu (wpAny_bind (wpAny_pure ?_)))))
  show wpAny _ _ (pure ((n : Int) - 1, (-1 : Int), Builtin.Slice.slicePlaces ((n : Int) - 1) (-1) (-1))) _ _ s
  rw [places_rev]
  exact wpAny_pure h
theorem fm_congr {α β : Type} {f g : α → Option β} : ∀ {l : List α}, (∀ x ∈ l, f x = g x) → l.filterMap f = l.filterMap g
  | [], _ => rfl
  | x :: l, h => by rw [List.filterMap_cons, List.filterMap_cons, h x List.mem_cons_self, fm_congr fun y hy => h y (List.mem_cons_of_mem _ hy)]
theorem pick_rev (xs : Array Value) : ((List.range xs.size).filterMap fun (m : Nat) => xs[((xs.size : Int) - 1 + (m : Int) * (-1)).toNat]?).toArray = xs.toList.reverse.toArray := by
  have e : (List.range xs.size).filterMap (fun (m : Nat) => xs[((xs.size : Int) - 1 + (m : Int) * (-1)).toNat]?) = ((List.range xs.size).map fun k => xs.size - 1 - k).filterMap (xs[·]?) := by
    rw [List.filterMap_map]
    refine fm_congr fun m hm => ?_
    have := List.mem_range.mp hm
    show _ = xs[xs.size - 1 - m]?
    rw [show ((xs.size : Int) - 1 + (m : Int) * (-1)).toNat = xs.size - 1 - m by omega]
  rw [e, PySem.W.krv_range, List.filterMap_reverse, PySem.W.krv_all]
theorem getItem_tuple_rev {t sl : Addr} {items : Array Value} {vl vu vk : Value} {Q : Value → Shared → Prop} (ht : IsTup s.heap t items) (hs : s.heap.IsSliceOf sl vl vu vk) (pl : IsPart vl none) (pu : IsPart vu none) (pk : IsPart vk (some (-1)))
    (h : Q (.ref s.heap.objs.size) { s with heap := s.heap.push { cls := .type "tuple", data := .seq items.toList.reverse.toArray } })
    (hsz : items.size ≤ sizeLine) : wpAny (model prog w) A (getItem (.ref t) (.ref sl)) Q E s := by
  have htake : sizeOk (.seq items.toList.reverse.toArray) := by
    show items.toList.reverse.toArray.size ≤ sizeLine
    rw [List.size_toArray, List.length_reverse, Array.length_toList]
    exact hsz
  obtain ⟨os, hos, hcs, hds⟩ := id hs
  have hTs : s.TypeIs (.ref sl) "slice" := ⟨os, hos, hcs⟩
  unfold getItem
  try with_reducible refine wpAny_holding ?_
  first | refine wpAny_bind (wpAny_pure ?_) | skip
  refine wpAny_bind (wpAny_sequenceKey ht.typeIs (by decide) ?_)
  refine wpAny_bind (wpAny_callSpecial?_slot (name := Str.ofString "__getitem__") ht.typeIs PyProof.Rows.slot_tuple_getitem
    (wpAny_call_entry PyProof.Rows.slot_tuple_getitem ht.typeIs entry_tuple_getitem ?_ (args_tuple_getitem _ _)))
  show wpAny _ _ (Builtin.Tuple.tupleItemsOf (.ref t) >>= _) _ _ s
  refine wpAny_bind (tupleItemsOf_ ht ?_)
  refine wpAny_bind (wpAny_typeOf hTs ?_)
  rw [if_pos (by decide)]
  refine wpAny_bind (applied_rev hs pl pu pk ?_)
  have hno : ¬ ((((items.size : Int) - 1) == 0 && (-1 : Int) == 1 && items.size == items.size) = true) := by
    intro q
    rw [Bool.and_eq_true, Bool.and_eq_true] at q
    exact absurd q.1.2 (by decide)
  show wpAny _ _ (if (((items.size : Int) - 1) == 0 && (-1 : Int) == 1 && items.size == items.size) = true then _ else _) _ _ s
  rw [if_neg hno, pick_rev]
  first
    | exact wpAny_bind (m := Builtin.Tuple.tupleExact _) (wpAny_newObj_type (wpAny_pure ⟨_, rfl, wpAny_pure h⟩) htake)
    | exact wpAny_bind (m := Builtin.Tuple.tupleExact _) (wpAny_newObj_type (wpAny_bind (wpAny_pure (wpAny_pure ⟨_, rfl, wpAny_pure h⟩))) htake)
    | exact wpAny_bind (wpAny_bind (m := Builtin.Tuple.tupleExact _) (wpAny_newObj_type (wpAny_pure (wpAny_pure ⟨_, rfl, wpAny_pure h⟩)) htake))
    | exact wpAny_bind (wpAny_bind (m := Builtin.Tuple.tupleExact _) (wpAny_newObj_type (wpAny_pure ⟨_, rfl, wpAny_pure h⟩) htake))
end
def rRev (K : PySem.W.Frag) : V → Hp → VK → Prop := fun x H Q => (∃ a xs, x = .ref a ∧ SqL K H a xs ∧ ∀ p, H p = none → Q (.ref p) (upd H p (.lst xs.reverse))) ∨ (∃ a xs, x = .ref a ∧ SqT K H a xs ∧ ∀ p, H p = none → Q (.ref p) (upd H p (.tup xs.reverse)))
section
variable {X : Cx} {e : Expr} {te : TE} {k : Nat} {p1 p2 p3 pos : Pos}
theorem pe_rev (he : PE X e te) : PE X (.Subscript e (.Slice none none (some (.UnaryOp .USub (.Constant (.int 1) k p1) p2)) p3) pos) (tUn (rRev X.K) te) := by
  refine ⟨fun pins s σ H Q I h => ?_⟩
  refine Subscript_ (thn (he.run pins s σ H _ I h) fun v s1 ⟨x, H1, I1, r1, q1⟩ => ?_)
  have hst : PO X (some (.UnaryOp .USub (.Constant (.int 1) k p1) p2)) (tPart (tUn (rU fun i => .int (-i)) (tC (.int 1)))) := po_some (pe_un un_neg pe_int)
  refine wpAny_Slice (thn (po_none.run pins s1 σ H1 (fun o H2 => o = none ∧ H2 = H1) I1 ⟨rfl, rfl⟩) fun vl s2 ⟨l, H2, I2, pl, el, e2⟩ => ?_)
  subst el e2
  refine thn (po_none.run pins s2 σ H2 (fun o H3 => o = none ∧ H3 = H2) I2 ⟨rfl, rfl⟩) fun vu s3 ⟨u, H3, I3, pu, eu, e3⟩ => ?_
  subst eu e3
  refine thn (hst.run pins s3 σ H3 (fun o H4 => o = some (-1) ∧ H4 = H3) I3 ⟨1, rfl, -1, rfl, rfl, rfl⟩) fun vs s4 ⟨o, H4, I4, ps, eo, e4⟩ => ?_
  subst eo e4
  have I5 : Inv X pins σ H4 { s4 with heap := s4.heap.push { cls := .type "slice", data := .fields #[vl, vu, vs] } } := I4.kept (t' := s4.toks) fun b ob q => Heap.get?_push_of_some _ q
  show wpAny (model X.prog X.w) X.A (subscriptTail e (.Slice none none (some (.UnaryOp .USub (.Constant (.int 1) k p1) p2)) p3) v (.ref s4.heap.objs.size)) (EP X pins σ Q) X.xe { s4 with heap := s4.heap.push { cls := .type "slice", data := .fields #[vl, vu, vs] } }
  rcases q1 with ⟨a, xs, ex, hx, q⟩ | ⟨a, xs, ex, hx, q⟩
  · subst ex
    cases r1
    obtain ⟨its, r, ht, hz⟩ := I5.list hx
    have hlen := r.length
    refine tail_any (ops := [.ref a, .ref s4.heap.objs.size]) ht.isList.typeIs (PySem.slot_list_getitem.lookup) ?_ (by with_unfolding_all rfl)
    refine wpAny_getItem_list_slice ht.isList (Heap.IsSliceOf.new _ vl vu vs) pl pu ps (by decide) ?_ (by rw [List.size_toArray]; omega)
    rw [PySem.W.krv_pick]
    refine ⟨.ref _, _, I5.laid (t' := s4.toks) (o := .lst xs.reverse) (fun b ob q => Heap.get?_push_of_some _ q) (Nat.le_refl _) ?_, rfl, q _ (I5.hok.fresh (Nat.le_refl _))⟩
    exact ⟨by rw [List.length_reverse]; exact hz, _, 0, r.reverse, Heap.get?_push_size _ rfl⟩
  · subst ex
    cases r1
    obtain ⟨its, r, ht, hz⟩ := I5.tuple hx
    have hlen := r.length
    refine tail_any (ops := [.ref a, .ref s4.heap.objs.size]) ht.typeIs PyProof.Rows.slot_tuple_getitem.lookup ?_ (by with_unfolding_all rfl)
    refine getItem_tuple_rev ht (Heap.IsSliceOf.new _ vl vu vs) pl pu ps ?_ (by rw [List.size_toArray]; omega)
    refine ⟨.ref _, _, I5.laid (t' := s4.toks) (o := .tup xs.reverse) (fun b ob q => Heap.get?_push_of_some _ q) (Nat.le_refl _) ?_, rfl, q _ (I5.hok.fresh (Nat.le_refl _))⟩
    exact ⟨by rw [List.length_reverse]; exact hz, _, r.reverse, IsTup.new _ _⟩
def gRev : PyData → Option PyData
  | .list ds => some (.list ds.reverse)
  | .tuple ds => some (.tuple ds.reverse)
  | _ => none
theorem dp_rev {K : PySem.W.Frag} {F : Hp} : ∀ {vs : List V} {ds : List PyData}, DqAll K F vs ds → DqAll K F vs.reverse ds.reverse
  | [], _, h => by cases h; exact .nil
  | v :: vs, _, h => by
    cases h with
    | cons q r =>
      rw [List.reverse_cons, List.reverse_cons]
      exact dp_app (dp_rev r) (.cons q .nil)
theorem pr_rev {K : PySem.W.Frag} : Pr1 K (rRev K) gRev := by
  intro F H v x z Q s p e k
  unfold gRev at e
  split at e
  · cases e
    obtain ⟨a, ws, rfl, h, q⟩ := p.lst s
    refine .inl ⟨a, ws, rfl, h.sq, fun l n => ?_⟩
    have g := Grow.upd (o := .lst ws.reverse) s n
    exact k _ _ _ g (.lst (Ls.of upd_same) (dpAll_mono g.f (dp_rev q)))
  · cases e
    obtain ⟨a, ws, rfl, h, q, d1⟩ := p.tup s
    refine .inr ⟨a, ws, rfl, h, fun l n => ?_⟩
    have g := Grow.upd (o := .tup ws.reverse) s n
    exact k _ _ _ g (.tup (SqT.of upd_same) (dpAll_mono g.f (dp_rev q)))
  · cases e
theorem je_rev {fa : En → Option (Ag × En)} (ha : JP X e fa) : JE X (.Subscript e (.Slice none none (some (.UnaryOp .USub (.Constant (.int 1) k p1) p2)) p3) pos) (dUn gRev fa) := pe_im (pe_rev ha) fun _ _ _ h => op1 pr_rev h
end
end Jd
/-! Jd: how the functions on data are reckoned by simp: each combinator at a known state is a call of a function without binders, which steps on as soon as its part is known. (Printed by a program of mine.) -/
namespace Jd
open PySem PySem.Spec PyProof.Rows L2
def getK (o : Option Sl) : Option PyData := o.bind Sl.get
@[simp] theorem getK_0 {d : PyData} : getK (some (.dat d)) = some d := id rfl
@[simp] theorem getK_1 {io : Bool} {ds : List PyData} : getK (some (.own io ds)) = some (.list ds) := id rfl
@[simp] theorem sim_get_dat {G : En} {d : PyData} : (Ag.dat d).get G = some d := id rfl
@[simp] theorem sim_get_slot {G : En} {i : Nat} : (Ag.slot i).get G = getK (G[i]?) := id rfl
def galK (o : Option PyData) (p : Option (List PyData)) : Option (List PyData) := o.bind fun d => p.bind fun ds => some (d :: ds)
@[simp] theorem galK_0 {d : PyData} {ds : List PyData} : galK (some d) (some ds) = some (d :: ds) := id rfl
@[simp] theorem sim_gal0 {G : En} : getAll G [] = some [] := id rfl
@[simp] theorem sim_galC {G : En} {a : Ag} {r : List Ag} : getAll G (a :: r) = galK (a.get G) (getAll G r) := id rfl
def pvK (o : Option Sl) (i : Nat) (G : En) : Option (Ag × En) := (o.bind Sl.get).bind fun _ => some (.slot i, G)
@[simp] theorem pvK_0 {i : Nat} {G : En} {d : PyData} : pvK (some (.dat d)) i G = some (.slot i, G) := id rfl
@[simp] theorem pvK_1 {i : Nat} {G : En} {io : Bool} {ds : List PyData} : pvK (some (.own io ds)) i G = some (.slot i, G) := id rfl
@[simp] theorem sim_Pv {G : En} {i : Nat} : dPv i G = pvK (G[i]?) i G := id rfl
def varK (o : Option Sl) (i : Nat) (G : En) : Option (PyData × En) := match o with | some (.dat d) => some (d, G) | some (.own _ ds) => some (.list ds, G.set i (.dat (.list ds))) | _ => none
@[simp] theorem varK_0 {i : Nat} {G : En} {d : PyData} : varK (some (.dat d)) i G = some (d, G) := id rfl
@[simp] theorem varK_1 {i : Nat} {G : En} {io : Bool} {ds : List PyData} : varK (some (.own io ds)) i G = some (.list ds, G.set i (.dat (.list ds))) := id rfl
@[simp] theorem sim_Var {G : En} {i : Nat} : dVar i G = varK (G[i]?) i G := id rfl
@[simp] theorem sim_C {G : En} {d : PyData} : dC d G = some (d, G) := id rfl
def agK (o : Option (PyData × En)) : Option (Ag × En) := o.bind fun r => some (.dat r.1, r.2)
@[simp] theorem agK_0 {d : PyData} {G : En} : agK (some (d, G)) = some (.dat d, G) := id rfl
@[simp] theorem sim_Ag {G : En} {f : En → Option (PyData × En)} : dAg f G = agK (f G) := id rfl
@[simp] theorem sim_Ps0 {G : En} : dPs0 G = some ([], G) := id rfl
@[simp] theorem sim_Es0 {G : En} : dEs0 G = some ([], G) := id rfl
def psK2 (a : Ag) (o : Option (List Ag × En)) : Option (List Ag × En) := o.bind fun q => some (a :: q.1, q.2)
@[simp] theorem psK2_0 {a : Ag} {as : List Ag} {G : En} : psK2 a (some (as, G)) = some (a :: as, G) := id rfl
def psK (o : Option (Ag × En)) (g : En → Option (List Ag × En)) : Option (List Ag × En) := o.bind fun r => psK2 r.1 (g r.2)
@[simp] theorem psK_0 {a : Ag} {G : En} {g : En → Option (List Ag × En)} : psK (some (a, G)) g = psK2 a (g G) := id rfl
@[simp] theorem sim_PsC {G : En} {f : En → Option (Ag × En)} {g : En → Option (List Ag × En)} : dPsC f g G = psK (f G) g := id rfl
def esK2 (a : PyData) (o : Option (List PyData × En)) : Option (List PyData × En) := o.bind fun q => some (a :: q.1, q.2)
@[simp] theorem esK2_0 {a : PyData} {as : List PyData} {G : En} : esK2 a (some (as, G)) = some (a :: as, G) := id rfl
def esK (o : Option (PyData × En)) (g : En → Option (List PyData × En)) : Option (List PyData × En) := o.bind fun r => esK2 r.1 (g r.2)
@[simp] theorem esK_0 {a : PyData} {G : En} {g : En → Option (List PyData × En)} : esK (some (a, G)) g = esK2 a (g G) := id rfl
@[simp] theorem sim_EsC {G : En} {f : En → Option (PyData × En)} {g : En → Option (List PyData × En)} : dEsC f g G = esK (f G) g := id rfl
def tupK (o : Option (List PyData × En)) : Option (PyData × En) := o.bind fun r => if r.1.length ≤ 1000 then some (.tuple r.1, r.2) else none
@[simp] theorem tupK_0 {ds : List PyData} {G : En} : tupK (some (ds, G)) = if ds.length ≤ 1000 then some (.tuple ds, G) else none := id rfl
@[simp] theorem sim_Tup {G : En} {f : En → Option (List PyData × En)} : dTup f G = tupK (f G) := id rfl
def lstK (o : Option (List PyData × En)) : Option (List PyData × En) := o.bind fun r => if r.1.length ≤ 1000 then some (r.1, r.2) else none
@[simp] theorem lstK_0 {ds : List PyData} {G : En} : lstK (some (ds, G)) = if ds.length ≤ 1000 then some (ds, G) else none := id rfl
@[simp] theorem sim_Lst {G : En} {f : En → Option (List PyData × En)} : dLst f G = lstK (f G) := id rfl
def fzK (o : Option (List PyData × En)) : Option (PyData × En) := o.bind fun r => some (.list r.1, r.2)
@[simp] theorem fzK_0 {ds : List PyData} {G : En} : fzK (some (ds, G)) = some (.list ds, G) := id rfl
@[simp] theorem sim_Fz {G : En} {f : En → Option (List PyData × En)} : dFz f G = fzK (f G) := id rfl
def retK {α : Type} (o : Option α) (G : En) : Option (α × En) := o.bind fun z => some (z, G)
@[simp] theorem retK_0 {α : Type} {z : α} {G : En} : retK (some z) G = some (z, G) := id rfl
def opK3 (o : PyData → PyData → Option (PyData)) (x y : Option PyData) (G : En) : Option (PyData × En) := x.bind fun x => y.bind fun y => retK (o x y) G
@[simp] theorem opK3_0 {o : PyData → PyData → Option (PyData)} {x y : PyData} {G : En} : opK3 o (some x) (some y) G = retK (o x y) G := id rfl
def opK2 (o : PyData → PyData → Option (PyData)) (a : Ag) (b : Option (Ag × En)) : Option (PyData × En) := b.bind fun q => opK3 o (a.get q.2) (q.1.get q.2) q.2
@[simp] theorem opK2_0 {o : PyData → PyData → Option (PyData)} {a b : Ag} {G : En} : opK2 o a (some (b, G)) = opK3 o (a.get G) (b.get G) G := id rfl
def opK1 (o : PyData → PyData → Option (PyData)) (a : Option (Ag × En)) (f : En → Option (Ag × En)) : Option (PyData × En) := a.bind fun r => opK2 o r.1 (f r.2)
@[simp] theorem opK1_0 {o : PyData → PyData → Option (PyData)} {a : Ag} {G : En} {f : En → Option (Ag × En)} : opK1 o (some (a, G)) f = opK2 o a (f G) := id rfl
@[simp] theorem sim_op {G : En} {o : PyData → PyData → Option (PyData)} {f g : En → Option (Ag × En)} : dOp o f g G = opK1 o (f G) g := id rfl
def opNK3 (o : PyData → PyData → Option (List PyData)) (x y : Option PyData) (G : En) : Option (List PyData × En) := x.bind fun x => y.bind fun y => retK (o x y) G
@[simp] theorem opNK3_0 {o : PyData → PyData → Option (List PyData)} {x y : PyData} {G : En} : opNK3 o (some x) (some y) G = retK (o x y) G := id rfl
def opNK2 (o : PyData → PyData → Option (List PyData)) (a : Ag) (b : Option (Ag × En)) : Option (List PyData × En) := b.bind fun q => opNK3 o (a.get q.2) (q.1.get q.2) q.2
@[simp] theorem opNK2_0 {o : PyData → PyData → Option (List PyData)} {a b : Ag} {G : En} : opNK2 o a (some (b, G)) = opNK3 o (a.get G) (b.get G) G := id rfl
def opNK1 (o : PyData → PyData → Option (List PyData)) (a : Option (Ag × En)) (f : En → Option (Ag × En)) : Option (List PyData × En) := a.bind fun r => opNK2 o r.1 (f r.2)
@[simp] theorem opNK1_0 {o : PyData → PyData → Option (List PyData)} {a : Ag} {G : En} {f : En → Option (Ag × En)} : opNK1 o (some (a, G)) f = opNK2 o a (f G) := id rfl
@[simp] theorem sim_opN {G : En} {o : PyData → PyData → Option (List PyData)} {f g : En → Option (Ag × En)} : dOpN o f g G = opNK1 o (f G) g := id rfl
def unK2 (o : PyData → Option PyData) (x : Option PyData) (G : En) : Option (PyData × En) := x.bind fun x => retK (o x) G
@[simp] theorem unK2_0 {o : PyData → Option PyData} {x : PyData} {G : En} : unK2 o (some x) G = retK (o x) G := id rfl
def unK (o : PyData → Option PyData) (a : Option (Ag × En)) : Option (PyData × En) := a.bind fun r => unK2 o (r.1.get r.2) r.2
@[simp] theorem unK_0 {o : PyData → Option PyData} {a : Ag} {G : En} : unK o (some (a, G)) = unK2 o (a.get G) G := id rfl
@[simp] theorem sim_Un {G : En} {o : PyData → Option PyData} {f : En → Option (Ag × En)} : dUn o f G = unK o (f G) := id rfl
def fnK2 (o : List PyData → Option (PyData)) (x : Option (List PyData)) (G : En) : Option (PyData × En) := x.bind fun x => retK (o x) G
@[simp] theorem fnK2_0 {o : List PyData → Option (PyData)} {x : List PyData} {G : En} : fnK2 o (some x) G = retK (o x) G := id rfl
def fnK (o : List PyData → Option (PyData)) (a : Option (List Ag × En)) : Option (PyData × En) := a.bind fun r => fnK2 o (getAll r.2 r.1) r.2
@[simp] theorem fnK_0 {o : List PyData → Option (PyData)} {a : List Ag} {G : En} : fnK o (some (a, G)) = fnK2 o (getAll G a) G := id rfl
@[simp] theorem sim_fn {G : En} {o : List PyData → Option (PyData)} {f : En → Option (List Ag × En)} : dFn o f G = fnK o (f G) := id rfl
def fnNK2 (o : List PyData → Option (List PyData)) (x : Option (List PyData)) (G : En) : Option (List PyData × En) := x.bind fun x => retK (o x) G
@[simp] theorem fnNK2_0 {o : List PyData → Option (List PyData)} {x : List PyData} {G : En} : fnNK2 o (some x) G = retK (o x) G := id rfl
def fnNK (o : List PyData → Option (List PyData)) (a : Option (List Ag × En)) : Option (List PyData × En) := a.bind fun r => fnNK2 o (getAll r.2 r.1) r.2
@[simp] theorem fnNK_0 {o : List PyData → Option (List PyData)} {a : List Ag} {G : En} : fnNK o (some (a, G)) = fnNK2 o (getAll G a) G := id rfl
@[simp] theorem sim_fnN {G : En} {o : List PyData → Option (List PyData)} {f : En → Option (List Ag × En)} : dFnN o f G = fnNK o (f G) := id rfl
def bK (o : Option (PyData × En)) : Option (Bool × En) := o.bind fun r => (asB r.1).bind fun b => some (b, r.2)
@[simp] theorem bK_0 {b : Bool} {G : En} : bK (some (.bool b, G)) = some (b, G) := id rfl
@[simp] theorem sim_B {G : En} {f : En → Option (PyData × En)} : dB f G = bK (f G) := id rfl
def trK2 (x : Option PyData) (G : En) : Option (Bool × En) := x.bind fun x => retK (truth x) G
@[simp] theorem trK2_0 {x : PyData} {G : En} : trK2 (some x) G = retK (truth x) G := id rfl
def trK (a : Option (Ag × En)) : Option (Bool × En) := a.bind fun r => trK2 (r.1.get r.2) r.2
@[simp] theorem trK_0 {a : Ag} {G : En} : trK (some (a, G)) = trK2 (a.get G) G := id rfl
@[simp] theorem sim_Tr {G : En} {f : En → Option (Ag × En)} : dTr f G = trK (f G) := id rfl
def andTK (a : Option (Bool × En)) (g : En → Option (Bool × En)) : Option (Bool × En) := a.bind fun r => if r.1 = true then g r.2 else some (false, r.2)
@[simp] theorem andTK_0 {G : En} {g : En → Option (Bool × En)} : andTK (some (true, G)) g = g G := id rfl
@[simp] theorem andTK_1 {G : En} {g : En → Option (Bool × En)} : andTK (some (false, G)) g = some (false, G) := id rfl
@[simp] theorem sim_AndT {G : En} {f g : En → Option (Bool × En)} : dAndT f g G = andTK (f G) g := id rfl
def orTK (a : Option (Bool × En)) (g : En → Option (Bool × En)) : Option (Bool × En) := a.bind fun r => if r.1 = true then some (true, r.2) else g r.2
@[simp] theorem orTK_0 {G : En} {g : En → Option (Bool × En)} : orTK (some (true, G)) g = some (true, G) := id rfl
@[simp] theorem orTK_1 {G : En} {g : En → Option (Bool × En)} : orTK (some (false, G)) g = g G := id rfl
@[simp] theorem sim_OrT {G : En} {f g : En → Option (Bool × En)} : dOrT f g G = orTK (f G) g := id rfl
def notTK (a : Option (Bool × En)) : Option (Bool × En) := a.bind fun r => some (!r.1, r.2)
@[simp] theorem notTK_0 {G : En} {b : Bool} : notTK (some (b, G)) = some (!b, G) := id rfl
@[simp] theorem sim_NotT {G : En} {f : En → Option (Bool × En)} : dNotT f G = notTK (f G) := id rfl
def andK2 (b : Option Bool) (d : PyData) (G : En) (g : En → Option (PyData × En)) : Option (PyData × En) := b.bind fun b => if b = true then g G else some (d, G)
@[simp] theorem andK2_0 {d : PyData} {G : En} {g : En → Option (PyData × En)} : andK2 (some true) d G g = g G := id rfl
@[simp] theorem andK2_1 {d : PyData} {G : En} {g : En → Option (PyData × En)} : andK2 (some false) d G g = some (d, G) := id rfl
def andK (a : Option (PyData × En)) (g : En → Option (PyData × En)) : Option (PyData × En) := a.bind fun r => andK2 (truth r.1) r.1 r.2 g
@[simp] theorem andK_0 {d : PyData} {G : En} {g : En → Option (PyData × En)} : andK (some (d, G)) g = andK2 (truth d) d G g := id rfl
@[simp] theorem sim_And {G : En} {f g : En → Option (PyData × En)} : dAnd f g G = andK (f G) g := id rfl
def orK2 (b : Option Bool) (d : PyData) (G : En) (g : En → Option (PyData × En)) : Option (PyData × En) := b.bind fun b => if b = true then some (d, G) else g G
@[simp] theorem orK2_0 {d : PyData} {G : En} {g : En → Option (PyData × En)} : orK2 (some true) d G g = some (d, G) := id rfl
@[simp] theorem orK2_1 {d : PyData} {G : En} {g : En → Option (PyData × En)} : orK2 (some false) d G g = g G := id rfl
def orK (a : Option (PyData × En)) (g : En → Option (PyData × En)) : Option (PyData × En) := a.bind fun r => orK2 (truth r.1) r.1 r.2 g
@[simp] theorem orK_0 {d : PyData} {G : En} {g : En → Option (PyData × En)} : orK (some (d, G)) g = orK2 (truth d) d G g := id rfl
@[simp] theorem sim_Or {G : En} {f g : En → Option (PyData × En)} : dOr f g G = orK (f G) g := id rfl
def notK (a : Option (PyData × En)) : Option (PyData × En) := a.bind fun r => (truth r.1).bind fun b => some (.bool (!b), r.2)
@[simp] theorem notK_b {b : Bool} {G : En} : notK (some (.bool b, G)) = some (.bool (!b), G) := id rfl
@[simp] theorem sim_Not {G : En} {f : En → Option (PyData × En)} : dNot f G = notK (f G) := id rfl
def ifK (a : Option (Bool × En)) (f g : En → Option (PyData × En)) : Option (PyData × En) := a.bind fun r => if r.1 = true then f r.2 else g r.2
@[simp] theorem ifK_0 {G : En} {f g : En → Option (PyData × En)} : ifK (some (true, G)) f g = f G := id rfl
@[simp] theorem ifK_1 {G : En} {f g : En → Option (PyData × En)} : ifK (some (false, G)) f g = g G := id rfl
@[simp] theorem sim_If {G : En} {t : En → Option (Bool × En)} {f g : En → Option (PyData × En)} : dIf t f g G = ifK (t G) f g := id rfl
def isiK2 (ks : List Kd) (x : Option PyData) (G : En) : Option (PyData × En) := x.bind fun x => some (.bool (ks.any fun k => isK k x), G)
@[simp] theorem isiK2_0 {ks : List Kd} {x : PyData} {G : En} : isiK2 ks (some x) G = some (.bool (ks.any fun k => isK k x), G) := id rfl
def isiK (ks : List Kd) (a : Option (Ag × En)) : Option (PyData × En) := a.bind fun r => isiK2 ks (r.1.get r.2) r.2
@[simp] theorem isiK_0 {ks : List Kd} {a : Ag} {G : En} : isiK ks (some (a, G)) = isiK2 ks (a.get G) G := id rfl
@[simp] theorem sim_Isi {G : En} {ks : List Kd} {f : En → Option (Ag × En)} : dIsi ks f G = isiK ks (f G) := id rfl
def chK5 (o : PyData → PyData → Option PyData) (b : Ag) (c : Option (Ag × En)) : Option (PyData × En) := c.bind fun t => opK3 o (b.get t.2) (t.1.get t.2) t.2
@[simp] theorem chK5_0 {o : PyData → PyData → Option PyData} {b c : Ag} {G : En} : chK5 o b (some (c, G)) = opK3 o (b.get G) (c.get G) G := id rfl
def chK4 (z : Option PyData) (o : PyData → PyData → Option PyData) (b : Ag) (h : En → Option (Ag × En)) (G : En) : Option (PyData × En) := z.bind fun z => (asB z).bind fun k => if k = true then chK5 o b (h G) else some (.bool false, G)
@[simp] theorem chK4_0 {o : PyData → PyData → Option PyData} {b : Ag} {h : En → Option (Ag × En)} {G : En} : chK4 (some (.bool true)) o b h G = chK5 o b (h G) := id rfl
@[simp] theorem chK4_1 {o : PyData → PyData → Option PyData} {b : Ag} {h : En → Option (Ag × En)} {G : En} : chK4 (some (.bool false)) o b h G = some (.bool false, G) := id rfl
def chK3 (o o2 : PyData → PyData → Option PyData) (x y : Option PyData) (b : Ag) (h : En → Option (Ag × En)) (G : En) : Option (PyData × En) := x.bind fun x => y.bind fun y => chK4 (o x y) o2 b h G
@[simp] theorem chK3_0 {o o2 : PyData → PyData → Option PyData} {x y : PyData} {b : Ag} {h : En → Option (Ag × En)} {G : En} : chK3 o o2 (some x) (some y) b h G = chK4 (o x y) o2 b h G := id rfl
def chK2 (o o2 : PyData → PyData → Option PyData) (a : Ag) (q : Option (Ag × En)) (h : En → Option (Ag × En)) : Option (PyData × En) := q.bind fun q => chK3 o o2 (a.get q.2) (q.1.get q.2) q.1 h q.2
@[simp] theorem chK2_0 {o o2 : PyData → PyData → Option PyData} {a b : Ag} {h : En → Option (Ag × En)} {G : En} : chK2 o o2 a (some (b, G)) h = chK3 o o2 (a.get G) (b.get G) b h G := id rfl
def chK1 (o o2 : PyData → PyData → Option PyData) (r : Option (Ag × En)) (g h : En → Option (Ag × En)) : Option (PyData × En) := r.bind fun r => chK2 o o2 r.1 (g r.2) h
@[simp] theorem chK1_0 {o o2 : PyData → PyData → Option PyData} {a : Ag} {g h : En → Option (Ag × En)} {G : En} : chK1 o o2 (some (a, G)) g h = chK2 o o2 a (g G) h := id rfl
@[simp] theorem sim_Chain {G : En} {o o2 : PyData → PyData → Option PyData} {f g h : En → Option (Ag × En)} : dChain o o2 f g h G = chK1 o o2 (f G) g h := id rfl
def partK (a : Option (PyData × En)) : Option (Option Int × En) := a.bind fun r => match r.1 with | .int i => some (some i, r.2) | _ => none
@[simp] theorem partK_0 {i : Int} {G : En} : partK (some (.int i, G)) = some (some i, G) := id rfl
@[simp] theorem sim_Part0 {G : En} : dPart none G = some (none, G) := id rfl
@[simp] theorem sim_Part1 {G : En} {f : En → Option (PyData × En)} : dPart (some f) G = partK (f G) := id rfl
def slK4 (o : PyData → Option Int → Option Int → Option (PyData)) (x : Option PyData) (l u : Option Int) (G : En) : Option (PyData × En) := x.bind fun x => retK (o x l u) G
@[simp] theorem slK4_0 {o : PyData → Option Int → Option Int → Option (PyData)} {x : PyData} {l u : Option Int} {G : En} : slK4 o (some x) l u G = retK (o x l u) G := id rfl
def slK3 (o : PyData → Option Int → Option Int → Option (PyData)) (a : Ag) (l : Option Int) (u : Option (Option Int × En)) : Option (PyData × En) := u.bind fun u => slK4 o (a.get u.2) l u.1 u.2
@[simp] theorem slK3_0 {o : PyData → Option Int → Option Int → Option (PyData)} {a : Ag} {l u : Option Int} {G : En} : slK3 o a l (some (u, G)) = slK4 o (a.get G) l u G := id rfl
def slK2 (o : PyData → Option Int → Option Int → Option (PyData)) (a : Ag) (l : Option (Option Int × En)) (fu : En → Option (Option Int × En)) : Option (PyData × En) := l.bind fun l => slK3 o a l.1 (fu l.2)
@[simp] theorem slK2_0 {o : PyData → Option Int → Option Int → Option (PyData)} {a : Ag} {l : Option Int} {fu : En → Option (Option Int × En)} {G : En} : slK2 o a (some (l, G)) fu = slK3 o a l (fu G) := id rfl
def slK1 (o : PyData → Option Int → Option Int → Option (PyData)) (a : Option (Ag × En)) (fl fu : En → Option (Option Int × En)) : Option (PyData × En) := a.bind fun r => slK2 o r.1 (fl r.2) fu
@[simp] theorem slK1_0 {o : PyData → Option Int → Option Int → Option (PyData)} {a : Ag} {fl fu : En → Option (Option Int × En)} {G : En} : slK1 o (some (a, G)) fl fu = slK2 o a (fl G) fu := id rfl
@[simp] theorem sim_sl {G : En} {o : PyData → Option Int → Option Int → Option (PyData)} {f : En → Option (Ag × En)} {fl fu : En → Option (Option Int × En)} : dSl o f fl fu G = slK1 o (f G) fl fu := id rfl
def slNK4 (o : PyData → Option Int → Option Int → Option (List PyData)) (x : Option PyData) (l u : Option Int) (G : En) : Option (List PyData × En) := x.bind fun x => retK (o x l u) G
@[simp] theorem slNK4_0 {o : PyData → Option Int → Option Int → Option (List PyData)} {x : PyData} {l u : Option Int} {G : En} : slNK4 o (some x) l u G = retK (o x l u) G := id rfl
def slNK3 (o : PyData → Option Int → Option Int → Option (List PyData)) (a : Ag) (l : Option Int) (u : Option (Option Int × En)) : Option (List PyData × En) := u.bind fun u => slNK4 o (a.get u.2) l u.1 u.2
@[simp] theorem slNK3_0 {o : PyData → Option Int → Option Int → Option (List PyData)} {a : Ag} {l u : Option Int} {G : En} : slNK3 o a l (some (u, G)) = slNK4 o (a.get G) l u G := id rfl
def slNK2 (o : PyData → Option Int → Option Int → Option (List PyData)) (a : Ag) (l : Option (Option Int × En)) (fu : En → Option (Option Int × En)) : Option (List PyData × En) := l.bind fun l => slNK3 o a l.1 (fu l.2)
@[simp] theorem slNK2_0 {o : PyData → Option Int → Option Int → Option (List PyData)} {a : Ag} {l : Option Int} {fu : En → Option (Option Int × En)} {G : En} : slNK2 o a (some (l, G)) fu = slNK3 o a l (fu G) := id rfl
def slNK1 (o : PyData → Option Int → Option Int → Option (List PyData)) (a : Option (Ag × En)) (fl fu : En → Option (Option Int × En)) : Option (List PyData × En) := a.bind fun r => slNK2 o r.1 (fl r.2) fu
@[simp] theorem slNK1_0 {o : PyData → Option Int → Option Int → Option (List PyData)} {a : Ag} {fl fu : En → Option (Option Int × En)} {G : En} : slNK1 o (some (a, G)) fl fu = slNK2 o a (fl G) fu := id rfl
@[simp] theorem sim_slN {G : En} {o : PyData → Option Int → Option Int → Option (List PyData)} {f : En → Option (Ag × En)} {fl fu : En → Option (Option Int × En)} : dSlN o f fl fu G = slNK1 o (f G) fl fu := id rfl
@[simp] theorem sim_Nx {G : En} : dNx G = some (.nx, G) := id rfl
@[simp] theorem sim_Brk {G : En} : dBrk G = some (.brk, G) := id rfl
@[simp] theorem sim_Cont {G : En} : dCont G = some (.cont, G) := id rfl
@[simp] theorem sim_Ret0 {G : En} : dRet0 G = some (.ret (.dat .none), G) := id rfl
@[simp] theorem sim_Yes {G : En} : dYes G = some (true, G) := id rfl
def seqK (a : Option (Fl × En)) (g : En → Option (Fl × En)) : Option (Fl × En) := match a with | some (.nx, G) => g G | some r => some r | none => none
@[simp] theorem seqK_0 {G : En} {g : En → Option (Fl × En)} : seqK (some (.nx, G)) g = g G := id rfl
@[simp] theorem seqK_1 {G : En} {g : En → Option (Fl × En)} : seqK (some (.brk, G)) g = some (.brk, G) := id rfl
@[simp] theorem seqK_2 {G : En} {g : En → Option (Fl × En)} : seqK (some (.cont, G)) g = some (.cont, G) := id rfl
@[simp] theorem seqK_3 {G : En} {x : Rv} {g : En → Option (Fl × En)} : seqK (some (.ret x, G)) g = some (.ret x, G) := id rfl
@[simp] theorem sim_Seq {G : En} {f g : En → Option (Fl × En)} : dSeq f g G = seqK (f G) g := by
  show (f G).bind _ = _
  cases f G with
  | none => rfl
  | some r => obtain ⟨fl, G1⟩ := r; cases fl <;> rfl
def dropK (a : Option (PyData × En)) : Option (Fl × En) := a.bind fun r => some (.nx, r.2)
@[simp] theorem dropK_0 {d : PyData} {G : En} : dropK (some (d, G)) = some (.nx, G) := id rfl
@[simp] theorem sim_Drop {G : En} {f : En → Option (PyData × En)} : dDrop f G = dropK (f G) := id rfl
def rtK (a : Option (PyData × En)) : Option (Fl × En) := a.bind fun r => some (.ret (.dat r.1), r.2)
@[simp] theorem rtK_0 {d : PyData} {G : En} : rtK (some (d, G)) = some (.ret (.dat d), G) := id rfl
@[simp] theorem sim_Ret {G : En} {f : En → Option (PyData × En)} : dRet f G = rtK (f G) := id rfl
def rtNK (a : Option (List PyData × En)) : Option (Fl × En) := a.bind fun r => some (.ret (.new r.1), r.2)
@[simp] theorem rtNK_0 {d : List PyData} {G : En} : rtNK (some (d, G)) = some (.ret (.new d), G) := id rfl
@[simp] theorem sim_RetN {G : En} {f : En → Option (List PyData × En)} : dRetN f G = rtNK (f G) := id rfl
def ifsK (a : Option (Bool × En)) (f g : En → Option (Fl × En)) : Option (Fl × En) := a.bind fun r => if r.1 = true then f r.2 else g r.2
@[simp] theorem ifsK_0 {G : En} {f g : En → Option (Fl × En)} : ifsK (some (true, G)) f g = f G := id rfl
@[simp] theorem ifsK_1 {G : En} {f g : En → Option (Fl × En)} : ifsK (some (false, G)) f g = g G := id rfl
@[simp] theorem sim_IfS {G : En} {t : En → Option (Bool × En)} {f g : En → Option (Fl × En)} : dIfS t f g G = ifsK (t G) f g := id rfl
def setK (i : Nat) (a : Option (PyData × En)) : Option (Fl × En) := a.bind fun r => some (.nx, r.2.set i (.dat r.1))
@[simp] theorem setK_0 {i : Nat} {d : PyData} {G : En} : setK i (some (d, G)) = some (.nx, G.set i (.dat d)) := id rfl
@[simp] theorem sim_Set {G : En} {i : Nat} {f : En → Option (PyData × En)} : dSet i f G = setK i (f G) := id rfl
def setNK (i : Nat) (a : Option (List PyData × En)) : Option (Fl × En) := a.bind fun r => some (.nx, r.2.set i (.own false r.1))
@[simp] theorem setNK_0 {i : Nat} {d : List PyData} {G : En} : setNK i (some (d, G)) = some (.nx, G.set i (.own false d)) := id rfl
@[simp] theorem sim_SetN {G : En} {i : Nat} {f : En → Option (List PyData × En)} : dSetN i f G = setNK i (f G) := id rfl
def asgK2 (a : Option En) : Option (Fl × En) := a.bind fun G => some (.nx, G)
@[simp] theorem asgK2_0 {G : En} : asgK2 (some G) = some (.nx, G) := id rfl
def asgK (a : Option (PyData × En)) (t : PyData → En → Option En) : Option (Fl × En) := a.bind fun r => asgK2 (t r.1 r.2)
@[simp] theorem asgK_0 {d : PyData} {G : En} {t : PyData → En → Option En} : asgK (some (d, G)) t = asgK2 (t d G) := id rfl
@[simp] theorem sim_Asg {G : En} {f : En → Option (PyData × En)} {t : PyData → En → Option En} : dAsg f t G = asgK (f G) t := id rfl
@[simp] theorem sim_gN {G : En} {i : Nat} {d : PyData} : dgN i d G = some (G.set i (.dat d)) := id rfl
@[simp] theorem sim_gs0 {G : En} : dgs0 [] G = some G := id rfl
def gsK (a : Option En) (r : List PyData → En → Option En) (ds : List PyData) : Option En := a.bind fun G => r ds G
@[simp] theorem gsK_0 {G : En} {r : List PyData → En → Option En} {ds : List PyData} : gsK (some G) r ds = r ds G := id rfl
@[simp] theorem sim_gsC {G : En} {t : PyData → En → Option En} {r : List PyData → En → Option En} {d : PyData} {ds : List PyData} : dgsC t r (d :: ds) G = gsK (t d G) r ds := id rfl
@[simp] theorem sim_gT {G : En} {n : Nat} {r : List PyData → En → Option En} {ds : List PyData} : dgT n r (.tuple ds) G = if ds.length = n then r ds G else none := id rfl
def gSK3 (j : Option Nat) (i : Nat) (io : Bool) (ds : List PyData) (d : PyData) (G : En) : Option En := j.bind fun j => some (G.set i (.own io (ds.set j d)))
@[simp] theorem gSK3_0 {j i : Nat} {io : Bool} {ds : List PyData} {d : PyData} {G : En} : gSK3 (some j) i io ds d G = some (G.set i (.own io (ds.set j d))) := id rfl
def gSK2 (o : Option Sl) (k : Int) (i : Nat) (d : PyData) (G : En) : Option En := match o with | some (.own io ds) => gSK3 (ixN ds.length k) i io ds d G | _ => none
@[simp] theorem gSK2_0 {io : Bool} {ds : List PyData} {k : Int} {i : Nat} {d : PyData} {G : En} : gSK2 (some (.own io ds)) k i d G = gSK3 (ixN ds.length k) i io ds d G := id rfl
def gSK (a : Option (PyData × En)) (i : Nat) (d : PyData) : Option En := a.bind fun r => match r.1 with | .int k => gSK2 (r.2[i]?) k i d r.2 | _ => none
@[simp] theorem gSK_0 {k : Int} {G : En} {i : Nat} {d : PyData} : gSK (some (.int k, G)) i d = gSK2 (G[i]?) k i d G := id rfl
@[simp] theorem sim_gS {G : En} {i : Nat} {f : En → Option (PyData × En)} {d : PyData} : dgS i f d G = if isOwn G[i]? = true then gSK (f G) i d else none := by
  show (if isOwn G[i]? = true then (f G).bind _ else none) = _
  split
  · cases f G with
    | none => rfl
    | some r =>
      obtain ⟨x, G1⟩ := r
      cases x with
      | int k =>
        show (match (PyData.int k, G1).1, (PyData.int k, G1).2[i]? with
          | .int k, some (.own io ds) => (ixN ds.length k).bind fun j => some ((PyData.int k, G1).2.set i (.own io (ds.set j d)))
          | _, _ => none) = gSK2 (G1[i]?) k i d G1
        unfold gSK2
        cases G1[i]? with
        | none => rfl
        | some y => cases y <;> rfl
      | _ => rfl
  · rfl
@[simp] theorem sim_isOwn0 {io : Bool} {ds : List PyData} : isOwn (some (.own io ds)) = true := id rfl
def forK (a : Option (List PyData × En)) (t : PyData → En → Option En) (f : En → Option (Fl × En)) : Option (Fl × En) := a.bind fun r => loopFor t f r.1 r.2
@[simp] theorem forK_0 {ds : List PyData} {G : En} {t : PyData → En → Option En} {f : En → Option (Fl × En)} : forK (some (ds, G)) t f = loopFor t f ds G := id rfl
@[simp] theorem sim_For {G : En} {gi : En → Option (List PyData × En)} {t : PyData → En → Option En} {f : En → Option (Fl × En)} : dFor gi t f G = forK (gi G) t f := id rfl
@[simp] theorem sim_While {G : En} {n : Nat} {t : En → Option (Bool × En)} {f : En → Option (Fl × En)} : dWhile n t f G = loopW t f n G := id rfl
def isqK (a : Option (PyData × En)) : Option (List PyData × En) := a.bind fun r => retK (seqOf r.1) r.2
@[simp] theorem isqK_0 {d : PyData} {G : En} : isqK (some (d, G)) = retK (seqOf d) G := id rfl
@[simp] theorem sim_iSeq {G : En} {f : En → Option (PyData × En)} : diSeq f G = isqK (f G) := id rfl
@[simp] theorem sim_seqL {ds : List PyData} : seqOf (.list ds) = some ds := id rfl
@[simp] theorem sim_seqT {ds : List PyData} : seqOf (.tuple ds) = some ds := id rfl
def irgK (a : Option (List PyData × En)) : Option (List PyData × En) := a.bind fun r => match r.1 with | [.int j] => if small62 j = true then some (rangeD 0 j.toNat, r.2) else none | [.int i, .int j] => if small62 i && small62 j then some (rangeD i (j - i).toNat, r.2) else none | _ => none
@[simp] theorem irgK_0 {j : Int} {G : En} : irgK (some ([.int j], G)) = if small62 j = true then some (rangeD 0 j.toNat, G) else none := id rfl
@[simp] theorem irgK_1 {i j : Int} {G : En} : irgK (some ([.int i, .int j], G)) = if small62 i && small62 j then some (rangeD i (j - i).toNat, G) else none := id rfl
@[simp] theorem sim_iRange {G : En} {f : En → Option (List PyData × En)} : diRange f G = irgK (f G) := id rfl
def izpK (a : Option (List PyData × En)) : Option (List PyData × En) := a.bind fun r => match r.1 with | [.list xs, .list ys] => some (zipD xs ys, r.2) | [.list xs, .tuple ys] => some (zipD xs ys, r.2) | [.tuple xs, .list ys] => some (zipD xs ys, r.2) | [.tuple xs, .tuple ys] => some (zipD xs ys, r.2) | _ => none
@[simp] theorem izpK_0 {xs ys : List PyData} {G : En} : izpK (some ([.list xs, .list ys], G)) = some (zipD xs ys, G) := id rfl
@[simp] theorem izpK_1 {xs ys : List PyData} {G : En} : izpK (some ([.tuple xs, .tuple ys], G)) = some (zipD xs ys, G) := id rfl
@[simp] theorem izpK_2 {xs ys : List PyData} {G : En} : izpK (some ([.list xs, .tuple ys], G)) = some (zipD xs ys, G) := id rfl
@[simp] theorem izpK_3 {xs ys : List PyData} {G : En} : izpK (some ([.tuple xs, .list ys], G)) = some (zipD xs ys, G) := id rfl
@[simp] theorem sim_iZip {G : En} {f : En → Option (List PyData × En)} : diZip f G = izpK (f G) := id rfl
def ienK (a : Option (List PyData × En)) : Option (List PyData × En) := a.bind fun r => match r.1 with | [.list xs] => some (enumD 0 xs, r.2) | [.tuple xs] => some (enumD 0 xs, r.2) | _ => none
@[simp] theorem ienK_0 {xs : List PyData} {G : En} : ienK (some ([.list xs], G)) = some (enumD 0 xs, G) := id rfl
@[simp] theorem ienK_1 {xs : List PyData} {G : En} : ienK (some ([.tuple xs], G)) = some (enumD 0 xs, G) := id rfl
@[simp] theorem sim_iEnum {G : En} {f : En → Option (List PyData × En)} : diEnum f G = ienK (f G) := id rfl
def lcK2 (a : Option (List PyData × En)) (vs : List Nat) (G : En) : Option (List PyData × En) := a.bind fun z => some (z.1, backG G z.2 vs)
@[simp] theorem lcK2_0 {ds : List PyData} {G G1 : En} {vs : List Nat} : lcK2 (some (ds, G1)) vs G = some (ds, backG G G1 vs) := id rfl
def lcK (a : Option (List PyData × En)) (vs : List Nat) (t : PyData → En → Option En) (tt : En → Option (Bool × En)) (te : En → Option (PyData × En)) : Option (List PyData × En) := a.bind fun r => if r.1.length ≤ big then lcK2 (loopLc vs t tt te r.1 (wipeG r.2 vs)) vs r.2 else none
@[simp] theorem lcK_0 {ds : List PyData} {G : En} {vs : List Nat} {t : PyData → En → Option En} {tt : En → Option (Bool × En)} {te : En → Option (PyData × En)} : lcK (some (ds, G)) vs t tt te = if ds.length ≤ big then lcK2 (loopLc vs t tt te ds (wipeG G vs)) vs G else none := id rfl
@[simp] theorem sim_Lc {G : En} {vs : List Nat} {gi : En → Option (List PyData × En)} {t : PyData → En → Option En} {tt : En → Option (Bool × En)} {te : En → Option (PyData × En)} : dLc vs gi t tt te G = lcK (gi G) vs t tt te := id rfl
@[simp] theorem sim_wipe0 {G : En} : wipeG G [] = G := id rfl
@[simp] theorem sim_wipeC {G : En} {v : Nat} {vs : List Nat} : wipeG G (v :: vs) = (wipeG G vs).set v .un := id rfl
def backK (o : Option Sl) (v : Nat) (G : En) : En := match o with | some (.dat d) => G.set v (.dat d) | _ => G.set v .un
@[simp] theorem backK_0 {v : Nat} {d : PyData} {G : En} : backK (some (.dat d)) v G = G.set v (.dat d) := id rfl
@[simp] theorem backK_1 {v : Nat} {G : En} : backK (some .un) v G = G.set v .un := id rfl
@[simp] theorem backK_2 {v : Nat} {io : Bool} {ds : List PyData} {G : En} : backK (some (.own io ds)) v G = G.set v .un := id rfl
@[simp] theorem backK_3 {v : Nat} {G : En} : backK none v G = G.set v .un := id rfl
@[simp] theorem sim_back0 {G0 G : En} : backG G0 G [] = G := id rfl
@[simp] theorem sim_backC {G0 G : En} {v : Nat} {vs : List Nat} : backG G0 G (v :: vs) = backK (G0[v]?) v (backG G0 G vs) := id rfl
def callK2 (o : Option Rv) (G : En) : Option (PyData × En) := o.bind fun z => some (z.data, G)
@[simp] theorem callK2_0 {z : Rv} {G : En} : callK2 (some z) G = some (z.data, G) := id rfl
def callK (n : Nat) (g : List PyData → Option Rv) (a : Option (List PyData × En)) : Option (PyData × En) := a.bind fun r => if r.1.length = n then callK2 (g r.1) r.2 else none
@[simp] theorem callK_0 {n : Nat} {g : List PyData → Option Rv} {ds : List PyData} {G : En} : callK n g (some (ds, G)) = if ds.length = n then callK2 (g ds) G else none := id rfl
@[simp] theorem sim_Call {G : En} {n : Nat} {g : List PyData → Option Rv} {f : En → Option (List PyData × En)} : dCall n g f G = callK n g (f G) := id rfl
@[simp] theorem sim_data0 {d : PyData} : (Rv.dat d).data = d := id rfl
@[simp] theorem sim_data1 {ds : List PyData} : (Rv.new ds).data = .list ds := id rfl
def callNK2 (o : Option Rv) (G : En) : Option (List PyData × En) := o.bind fun z => match z with | .new zs => some (zs, G) | .dat _ => none
@[simp] theorem callNK2_0 {zs : List PyData} {G : En} : callNK2 (some (.new zs)) G = some (zs, G) := id rfl
def callNK (n : Nat) (g : List PyData → Option Rv) (a : Option (List PyData × En)) : Option (List PyData × En) := a.bind fun r => if r.1.length = n then callNK2 (g r.1) r.2 else none
@[simp] theorem callNK_0 {n : Nat} {g : List PyData → Option Rv} {ds : List PyData} {G : En} : callNK n g (some (ds, G)) = if ds.length = n then callNK2 (g ds) G else none := id rfl
@[simp] theorem sim_CallN {G : En} {n : Nat} {g : List PyData → Option Rv} {f : En → Option (List PyData × En)} : dCallN n g f G = callNK n g (f G) := id rfl
def ckK2 (m m2 n : Nat) (ix : List Nat) (g : List PyData → Option Rv) (ds : List PyData) (b : Option (List PyData × En)) : Option (PyData × En) := b.bind fun t => if ds.length = m ∧ t.1.length = m2 ∧ ix.length = n then callK2 (g (pick .none ix (ds ++ t.1))) t.2 else none
@[simp] theorem ckK2_0 {m m2 n : Nat} {ix : List Nat} {g : List PyData → Option Rv} {ds es : List PyData} {G : En} : ckK2 m m2 n ix g ds (some (es, G)) = if ds.length = m ∧ es.length = m2 ∧ ix.length = n then callK2 (g (pick .none ix (ds ++ es))) G else none := id rfl
def ckK (m m2 n : Nat) (ix : List Nat) (g : List PyData → Option Rv) (a : Option (List PyData × En)) (h : En → Option (List PyData × En)) : Option (PyData × En) := a.bind fun r => ckK2 m m2 n ix g r.1 (h r.2)
@[simp] theorem ckK_0 {m m2 n : Nat} {ix : List Nat} {g : List PyData → Option Rv} {ds : List PyData} {G : En} {h : En → Option (List PyData × En)} : ckK m m2 n ix g (some (ds, G)) h = ckK2 m m2 n ix g ds (h G) := id rfl
@[simp] theorem sim_CallKw {G : En} {m m2 n : Nat} {ix : List Nat} {g : List PyData → Option Rv} {f h : En → Option (List PyData × En)} : dCallK m m2 n ix g f h G = ckK m m2 n ix g (f G) h := id rfl
def ck0K (m2 n : Nat) (ix : List Nat) (g : List PyData → Option Rv) (b : Option (List PyData × En)) : Option (PyData × En) := b.bind fun t => if t.1.length = m2 ∧ ix.length = n then callK2 (g (pick .none ix t.1)) t.2 else none
@[simp] theorem ck0K_0 {m2 n : Nat} {ix : List Nat} {g : List PyData → Option Rv} {es : List PyData} {G : En} : ck0K m2 n ix g (some (es, G)) = if es.length = m2 ∧ ix.length = n then callK2 (g (pick .none ix es)) G else none := id rfl
@[simp] theorem sim_CallKw0 {G : En} {m2 n : Nat} {ix : List Nat} {g : List PyData → Option Rv} {h : En → Option (List PyData × En)} : dCallK0 m2 n ix g h G = ck0K m2 n ix g (h G) := id rfl
def clK3 (o : Option (Rv × List PyData)) (i : Nat) (io : Bool) (G : En) : Option (PyData × En) := o.bind fun z => some (z.1.data, G.set i (.own io z.2))
@[simp] theorem clK3_0 {r : Rv} {ds : List PyData} {i : Nat} {io : Bool} {G : En} : clK3 (some (r, ds)) i io G = some (r.data, G.set i (.own io ds)) := id rfl
def clK2 (o : Option Sl) (n : Nat) (g : List PyData → List PyData → Option (Rv × List PyData)) (i : Nat) (ds : List PyData) (G : En) : Option (PyData × En) := match o with | some (.own io pp) => if ds.length = n then clK3 (g pp ds) i io G else none | _ => none
@[simp] theorem clK2_0 {n : Nat} {g : List PyData → List PyData → Option (Rv × List PyData)} {i : Nat} {io : Bool} {pp ds : List PyData} {G : En} : clK2 (some (.own io pp)) n g i ds G = if ds.length = n then clK3 (g pp ds) i io G else none := id rfl
def clK (n : Nat) (g : List PyData → List PyData → Option (Rv × List PyData)) (i : Nat) (a : Option (List PyData × En)) : Option (PyData × En) := a.bind fun r => clK2 (r.2[i]?) n g i r.1 r.2
@[simp] theorem clK_0 {n : Nat} {g : List PyData → List PyData → Option (Rv × List PyData)} {i : Nat} {ds : List PyData} {G : En} : clK n g i (some (ds, G)) = clK2 (G[i]?) n g i ds G := id rfl
@[simp] theorem sim_CallL {G : En} {n : Nat} {g : List PyData → List PyData → Option (Rv × List PyData)} {i : Nat} {f : En → Option (List PyData × En)} : dCallL n g i f G = if isOwn G[i]? = true then clK n g i (f G) else none := by
  show (if isOwn G[i]? = true then (f G).bind _ else none) = _
  split
  · cases f G with
    | none => rfl
    | some r =>
      obtain ⟨x, G1⟩ := r
      show (match (x, G1).2[i]? with
        | some (.own io pp) => if (x, G1).1.length = n then (g pp (x, G1).1).bind fun z => some (z.1.data, (x, G1).2.set i (.own io z.2)) else none
        | _ => none) = clK2 (G1[i]?) n g i x G1
      unfold clK2
      cases G1[i]? with
      | none => rfl
      | some y => cases y <;> rfl
  · rfl
def clnK2 (n : Nat) (g : List PyData → List PyData → Option (Rv × List PyData)) (pp : List PyData) (b : Option (List PyData × En)) : Option (PyData × En) := b.bind fun r => if r.1.length = n then (g pp r.1).bind fun z => some (z.1.data, r.2) else none
def clnK3 (o : Option (Rv × List PyData)) (G : En) : Option (PyData × En) := o.bind fun z => some (z.1.data, G)
@[simp] theorem clnK3_0 {r : Rv} {ds : List PyData} {G : En} : clnK3 (some (r, ds)) G = some (r.data, G) := id rfl
@[simp] theorem clnK2_s {n : Nat} {g : List PyData → List PyData → Option (Rv × List PyData)} {pp ds : List PyData} {G : En} : clnK2 n g pp (some (ds, G)) = if ds.length = n then clnK3 (g pp ds) G else none := id rfl
def clnK (n : Nat) (g : List PyData → List PyData → Option (Rv × List PyData)) (a : Option (List PyData × En)) (f : En → Option (List PyData × En)) : Option (PyData × En) := a.bind fun r => clnK2 n g r.1 (f r.2)
@[simp] theorem clnK_0 {n : Nat} {g : List PyData → List PyData → Option (Rv × List PyData)} {pp : List PyData} {G : En} {f : En → Option (List PyData × En)} : clnK n g (some (pp, G)) f = clnK2 n g pp (f G) := id rfl
@[simp] theorem sim_CallLN {G : En} {n : Nat} {g : List PyData → List PyData → Option (Rv × List PyData)} {f h : En → Option (List PyData × En)} : dCallLN n g f h G = clnK n g (f G) h := id rfl
def mtK3 (o : Option (PyData × List PyData)) (i : Nat) (io : Bool) (G : En) : Option (PyData × En) := o.bind fun z => some (z.1, G.set i (.own io z.2))
@[simp] theorem mtK3_0 {d : PyData} {ds : List PyData} {i : Nat} {io : Bool} {G : En} : mtK3 (some (d, ds)) i io G = some (d, G.set i (.own io ds)) := id rfl
def mtK2 (o : Option Sl) (g : List PyData → List PyData → Option (PyData × List PyData)) (i : Nat) (xs : List PyData) (G : En) : Option (PyData × En) := match o with | some (.own io ds) => mtK3 (g ds xs) i io G | _ => none
@[simp] theorem mtK2_0 {g : List PyData → List PyData → Option (PyData × List PyData)} {i : Nat} {io : Bool} {ds xs : List PyData} {G : En} : mtK2 (some (.own io ds)) g i xs G = mtK3 (g ds xs) i io G := id rfl
def mtK (g : List PyData → List PyData → Option (PyData × List PyData)) (i : Nat) (a : Option (List PyData × En)) : Option (PyData × En) := a.bind fun r => mtK2 (r.2[i]?) g i r.1 r.2
@[simp] theorem mtK_0 {g : List PyData → List PyData → Option (PyData × List PyData)} {i : Nat} {xs : List PyData} {G : En} : mtK g i (some (xs, G)) = mtK2 (G[i]?) g i xs G := id rfl
@[simp] theorem sim_Meth {G : En} {g : List PyData → List PyData → Option (PyData × List PyData)} {i : Nat} {f : En → Option (List PyData × En)} : dMeth g i f G = if isOwn G[i]? = true then mtK g i (f G) else none := by
  show (if isOwn G[i]? = true then (f G).bind _ else none) = _
  split
  · cases f G with
    | none => rfl
    | some r =>
      obtain ⟨x, G1⟩ := r
      show (match (x, G1).2[i]? with
        | some (.own io ds) => (g ds (x, G1).1).bind fun z => some (z.1, (x, G1).2.set i (.own io z.2))
        | _ => none) = mtK2 (G1[i]?) g i x G1
      unfold mtK2
      cases G1[i]? with
      | none => rfl
      | some y => cases y <;> rfl
  · rfl
def mt0K (o : Option Sl) (g : List PyData → List PyData → Option (PyData × List PyData)) (i : Nat) (G : En) : Option (PyData × En) := match o with | some (.own io ds) => mtK3 (g ds []) i io G | _ => none
@[simp] theorem mt0K_0 {g : List PyData → List PyData → Option (PyData × List PyData)} {i : Nat} {io : Bool} {ds : List PyData} {G : En} : mt0K (some (.own io ds)) g i G = mtK3 (g ds []) i io G := id rfl
@[simp] theorem sim_Meth0 {G : En} {g : List PyData → List PyData → Option (PyData × List PyData)} {i : Nat} : dMeth0 g i G = mt0K (G[i]?) g i G := by
  unfold dMeth0 mt0K
  cases G[i]? with
  | none => rfl
  | some y => cases y <;> rfl
@[simp] theorem sim_Rs0 {G : En} : dRs0 G = some ([], G) := id rfl
def rsK2 (a : Rv) (o : Option (List Rv × En)) : Option (List Rv × En) := o.bind fun q => some (a :: q.1, q.2)
@[simp] theorem rsK2_0 {a : Rv} {as : List Rv} {G : En} : rsK2 a (some (as, G)) = some (a :: as, G) := id rfl
def rsEK (o : Option (PyData × En)) (g : En → Option (List Rv × En)) : Option (List Rv × En) := o.bind fun r => rsK2 (.dat r.1) (g r.2)
@[simp] theorem rsEK_0 {a : PyData} {G : En} {g : En → Option (List Rv × En)} : rsEK (some (a, G)) g = rsK2 (.dat a) (g G) := id rfl
def rsNK (o : Option (List PyData × En)) (g : En → Option (List Rv × En)) : Option (List Rv × En) := o.bind fun r => rsK2 (.new r.1) (g r.2)
@[simp] theorem rsNK_0 {a : List PyData} {G : En} {g : En → Option (List Rv × En)} : rsNK (some (a, G)) g = rsK2 (.new a) (g G) := id rfl
@[simp] theorem sim_RsE {G : En} {f : En → Option (PyData × En)} {g : En → Option (List Rv × En)} : dRsE f g G = rsEK (f G) g := id rfl
@[simp] theorem sim_RsN {G : En} {f : En → Option (List PyData × En)} {g : En → Option (List Rv × En)} : dRsN f g G = rsNK (f G) g := id rfl
def par2K (i j : Nat) (a : Option (List Rv × En)) : Option (Fl × En) := a.bind fun r => match r.1 with | [x, y] => some (.nx, (r.2.set i x.sl).set j y.sl) | _ => none
@[simp] theorem par2K_0 {i j : Nat} {x y : Rv} {G : En} : par2K i j (some ([x, y], G)) = some (.nx, (G.set i x.sl).set j y.sl) := id rfl
@[simp] theorem sim_Par2 {G : En} {i j : Nat} {f : En → Option (List Rv × En)} : dPar2 i j f G = par2K i j (f G) := id rfl
def par3K (i j l : Nat) (a : Option (List Rv × En)) : Option (Fl × En) := a.bind fun r => match r.1 with | [x, y, z] => some (.nx, ((r.2.set i x.sl).set j y.sl).set l z.sl) | _ => none
@[simp] theorem par3K_0 {i j l : Nat} {x y z : Rv} {G : En} : par3K i j l (some ([x, y, z], G)) = some (.nx, ((G.set i x.sl).set j y.sl).set l z.sl) := id rfl
@[simp] theorem sim_Par3 {G : En} {i j l : Nat} {f : En → Option (List Rv × En)} : dPar3 i j l f G = par3K i j l (f G) := id rfl
@[simp] theorem sim_sl0 {d : PyData} : (Rv.dat d).sl = .dat d := id rfl
@[simp] theorem sim_sl1 {ds : List PyData} : (Rv.new ds).sl = .own false ds := id rfl
def ltK (a : Option (Bool × En)) (G : En) : Option (Bool × En) := a.bind fun r => some (r.1, G)
@[simp] theorem ltK_0 {b : Bool} {G G1 : En} : ltK (some (b, G1)) G = some (b, G) := id rfl
@[simp] theorem sim_LendT {G : En} {f : En → Option (Bool × En)} : dLendT f G = ltK (f (G.map Sl.frz)) G := id rfl
@[simp] theorem sim_frz0 {d : PyData} : (Sl.dat d).frz = .dat d := id rfl
@[simp] theorem sim_frz1 {io : Bool} {ds : List PyData} : (Sl.own io ds).frz = .dat (.list ds) := id rfl
@[simp] theorem sim_frz2 : Sl.un.frz = .un := id rfl
@[simp] theorem sim_endN {G : En} : endD (.nx, G) = some (.dat .none) := id rfl
@[simp] theorem sim_endR {x : Rv} {G : En} : endD (.ret x, G) = some x := id rfl
def rvK (o : Option Sl) (i : Nat) (G : En) : Option (Fl × En) := match o with | some (.own false ds) => some (.ret (.new ds), G.set i .un) | some (.dat d) => some (.ret (.dat d), G) | _ => none
@[simp] theorem rvK_0 {ds : List PyData} {i : Nat} {G : En} : rvK (some (.own false ds)) i G = some (.ret (.new ds), G.set i .un) := id rfl
@[simp] theorem rvK_1 {d : PyData} {i : Nat} {G : En} : rvK (some (.dat d)) i G = some (.ret (.dat d), G) := id rfl
@[simp] theorem sim_RetV {G : En} {i : Nat} : dRetV i G = rvK (G[i]?) i G := by
  unfold dRetV rvK
  cases G[i]? with
  | none => rfl
  | some y => cases y with
    | own b z => cases b <;> rfl
    | _ => rfl
def augK2 (o : Option PyData) (i : Nat) (G : En) : Option (Fl × En) := o.bind fun z => some (.nx, G.set i (.dat z))
@[simp] theorem augK2_0 {z : PyData} {i : Nat} {G : En} : augK2 (some z) i G = some (.nx, G.set i (.dat z)) := id rfl
def augK (x : PyData) (o : PyData → PyData → Option PyData) (i : Nat) (a : Option (PyData × En)) : Option (Fl × En) := a.bind fun r => augK2 (o x r.1) i r.2
@[simp] theorem augK_0 {x y : PyData} {o : PyData → PyData → Option PyData} {i : Nat} {G : En} : augK x o i (some (y, G)) = augK2 (o x y) i G := id rfl
def augK0 (s : Option Sl) (o : PyData → PyData → Option PyData) (i : Nat) (a : Option (PyData × En)) : Option (Fl × En) := match s with | some (.dat x) => augK x o i a | _ => none
@[simp] theorem augK0_0 {x : PyData} {o : PyData → PyData → Option PyData} {i : Nat} {a : Option (PyData × En)} : augK0 (some (.dat x)) o i a = augK x o i a := id rfl
@[simp] theorem sim_Aug {G : En} {o : PyData → PyData → Option PyData} {i : Nat} {f : En → Option (PyData × En)} : dAug o i f G = augK0 (G[i]?) o i (f G) := by
  unfold dAug augK0
  cases G[i]? with
  | none => rfl
  | some y => cases y <;> rfl
def endK (a : Option (Fl × En)) : Option Rv := a.bind endD
@[simp] theorem endK_0 {fl : Fl} {G : En} : endK (some (fl, G)) = endD (fl, G) := id rfl
theorem sim_runD {m : Nat} {f : En → Option (Fl × En)} {ds : List PyData} : runD m f ds = endK (f (slots m ds)) := rfl
def endLK2 (s : Option Sl) (x : Rv) : Option (Rv × List PyData) := match s with | some (.own true zs) => some (x, zs) | _ => none
@[simp] theorem endLK2_0 {zs : List PyData} {x : Rv} : endLK2 (some (.own true zs)) x = some (x, zs) := id rfl
def endLK1 (o : Option Rv) (G : En) : Option (Rv × List PyData) := o.bind fun x => endLK2 (G[0]?) x
@[simp] theorem endLK1_0 {x : Rv} {G : En} : endLK1 (some x) G = endLK2 (G[0]?) x := id rfl
def endLK (a : Option (Fl × En)) : Option (Rv × List PyData) := a.bind fun r => endLK1 (endD r) r.2
@[simp] theorem endLK_0 {fl : Fl} {G : En} : endLK (some (fl, G)) = endLK1 (endD (fl, G)) G := id rfl
theorem sim_runL {m : Nat} {f : En → Option (Fl × En)} {ps ds : List PyData} : runL m f ps ds = endLK (f (.own true ps :: (ds.map .dat ++ List.replicate (m - (ds.length + 1)) .un))) := by
  unfold runL endLK
  cases f (.own true ps :: (ds.map .dat ++ List.replicate (m - (ds.length + 1)) .un)) with
  | none => rfl
  | some r =>
    show (endD r).bind _ = endLK1 (endD r) r.2
    unfold endLK1
    cases endD r with
    | none => rfl
    | some x =>
      show (match (r.2[0]? : Option Sl) with | some (Sl.own true zs) => some (x, zs) | _ => none) = endLK2 (r.2[0]?) x
      unfold endLK2
      cases r.2[0]? with
      | none => rfl
      | some y =>
        cases y with
        | own b z => cases b <;> rfl
        | _ => rfl
def lr1K (o : Option (PyData × En)) : Option (List PyData × En) := o.bind fun r => retK (lrD (.int 0) r.1) r.2
@[simp] theorem lr1K_0 {d : PyData} {G : En} : lr1K (some (d, G)) = retK (lrD (.int 0) d) G := id rfl
@[simp] theorem sim_LstR1 {G : En} {f : En → Option (PyData × En)} : dLstR1 f G = lr1K (f G) := id rfl
def lr2K2 (d : PyData) (o : Option (PyData × En)) : Option (List PyData × En) := o.bind fun q => retK (lrD d q.1) q.2
@[simp] theorem lr2K2_0 {d e : PyData} {G : En} : lr2K2 d (some (e, G)) = retK (lrD d e) G := id rfl
def lr2K (o : Option (PyData × En)) (g : En → Option (PyData × En)) : Option (List PyData × En) := o.bind fun r => lr2K2 r.1 (g r.2)
@[simp] theorem lr2K_0 {d : PyData} {G : En} {g : En → Option (PyData × En)} : lr2K (some (d, G)) g = lr2K2 d (g G) := id rfl
@[simp] theorem sim_LstR2 {G : En} {f g : En → Option (PyData × En)} : dLstR2 f g G = lr2K (f G) g := id rfl
def lzK (o : Option (List PyData × En)) : Option (List PyData × En) := o.bind fun r => retK (lzD r.1) r.2
@[simp] theorem lzK_0 {ds : List PyData} {G : En} : lzK (some (ds, G)) = retK (lzD ds) G := id rfl
@[simp] theorem sim_LstZ {G : En} {f : En → Option (List PyData × En)} : dLstZ f G = lzK (f G) := id rfl
@[simp] theorem lzD_0 {xs ys : List PyData} : lzD [.list xs, .list ys] = if xs.length ≤ 1000 then some (zipD xs ys) else none := id rfl
def ifNK (a : Option (Bool × En)) (f g : En → Option (List PyData × En)) : Option (List PyData × En) := a.bind fun r => if r.1 = true then f r.2 else g r.2
@[simp] theorem ifNK_0 {G : En} {f g : En → Option (List PyData × En)} : ifNK (some (true, G)) f g = f G := id rfl
@[simp] theorem ifNK_1 {G : En} {f g : En → Option (List PyData × En)} : ifNK (some (false, G)) f g = g G := id rfl
@[simp] theorem sim_IfN {G : En} {t : En → Option (Bool × En)} {f g : En → Option (List PyData × En)} : dIfN t f g G = ifNK (t G) f g := id rfl
def cvK3 (o : Option (Rv × List PyData)) (i : Nat) (io : Bool) (G : En) : Option (List PyData × En) := o.bind fun z => (newOf z.1).bind fun zs => some (zs, G.set i (.own io z.2))
@[simp] theorem cvK3_0 {zs ds : List PyData} {i : Nat} {io : Bool} {G : En} : cvK3 (some (.new zs, ds)) i io G = some (zs, G.set i (.own io ds)) := id rfl
def cvK2 (o : Option Sl) (n : Nat) (g : List PyData → List PyData → Option (Rv × List PyData)) (i : Nat) (ds : List PyData) (G : En) : Option (List PyData × En) := match o with | some (.own io pp) => if ds.length = n then cvK3 (g pp ds) i io G else none | _ => none
@[simp] theorem cvK2_0 {n : Nat} {g : List PyData → List PyData → Option (Rv × List PyData)} {i : Nat} {io : Bool} {pp ds : List PyData} {G : En} : cvK2 (some (.own io pp)) n g i ds G = if ds.length = n then cvK3 (g pp ds) i io G else none := id rfl
def cvK (n : Nat) (g : List PyData → List PyData → Option (Rv × List PyData)) (i : Nat) (a : Option (List PyData × En)) : Option (List PyData × En) := a.bind fun r => cvK2 (r.2[i]?) n g i r.1 r.2
@[simp] theorem cvK_0 {n : Nat} {g : List PyData → List PyData → Option (Rv × List PyData)} {i : Nat} {ds : List PyData} {G : En} : cvK n g i (some (ds, G)) = cvK2 (G[i]?) n g i ds G := id rfl
@[simp] theorem sim_CallLv {G : En} {n : Nat} {g : List PyData → List PyData → Option (Rv × List PyData)} {i : Nat} {f : En → Option (List PyData × En)} : dCallLv n g i f G = if isOwn G[i]? = true then cvK n g i (f G) else none := by
  show (if isOwn G[i]? = true then (f G).bind _ else none) = _
  split
  · cases f G with
    | none => rfl
    | some r =>
      obtain ⟨x, G1⟩ := r
      show (match (x, G1).2[i]? with
        | some (.own io pp) => if (x, G1).1.length = n then (g pp (x, G1).1).bind fun z => (newOf z.1).bind fun zs => some (zs, (x, G1).2.set i (.own io z.2)) else none
        | _ => none) = cvK2 (G1[i]?) n g i x G1
      cases G1[i]? with
      | none => rfl
      | some s => cases s <;> rfl
  · rfl
end Jd
/-! Jd: the primitives at known data, for simp. -/
namespace Jd
open PySem PySem.Spec PyProof.Rows L2
section
variable {a b : Int} {x y : Str} {ds es : List PyData} {d e : PyData}
@[simp] theorem add_int : gAdd (.int a) (.int b) = some (.int (a + b)) := id rfl
@[simp] theorem sub_int : gSub (.int a) (.int b) = some (.int (a - b)) := id rfl
@[simp] theorem rev_l {ds : List PyData} : gRev (.list ds) = some (.list ds.reverse) := id rfl
@[simp] theorem rev_t {ds : List PyData} : gRev (.tuple ds) = some (.tuple ds.reverse) := id rfl
@[simp] theorem neg_int : gNeg (.int a) = some (.int (-a)) := id rfl
@[simp] theorem mulI_int : gMul (.int a) (.int b) = if mulOk a b = true then some (.int (a * b)) else none := id rfl
@[simp] theorem div_int : gDiv (.int a) (.int b) = if divOk b = true then some (.int (a.fdiv b)) else none := id rfl
@[simp] theorem mod_int : gMod (.int a) (.int b) = if b = 0 then none else some (.int (a.fmod b)) := id rfl
@[simp] theorem pow_int : gPow (.int a) (.int b) = if 0 ≤ b ∧ b ≤ 1000000 ∧ a.natAbs < 2 ^ 64 then some (.int (a ^ b.toNat)) else none := id rfl
@[simp] theorem lt_int : gLt (.int a) (.int b) = some (.bool (decide (a < b))) := id rfl
@[simp] theorem le_int : gLe (.int a) (.int b) = some (.bool (decide (a ≤ b))) := id rfl
@[simp] theorem gt_int : gGt (.int a) (.int b) = some (.bool (decide (b < a))) := id rfl
@[simp] theorem ge_int : gGe (.int a) (.int b) = some (.bool (decide (b ≤ a))) := id rfl
@[simp] theorem is_none' : gIs d .none = some (.bool (isNone d)) := by cases d <;> rfl
@[simp] theorem notIs_none : gNotIs d .none = some (.bool (!isNone d)) := by cases d <;> rfl
@[simp] theorem is_bool {p q : Bool} : gIs (.bool p) (.bool q) = some (.bool (decide (p = q))) := id rfl
@[simp] theorem notIs_bool {p q : Bool} : gNotIs (.bool p) (.bool q) = some (.bool (!decide (p = q))) := id rfl
@[simp] theorem isNone0 : isNone .none = true := id rfl
@[simp] theorem isNone1 : isNone (.int a) = false := id rfl
@[simp] theorem isNone2 : isNone (.tuple ds) = false := id rfl
@[simp] theorem isNone3 : isNone (.list ds) = false := id rfl
@[simp] theorem isNone4 : isNone (.str x) = false := id rfl
@[simp] theorem isNone5 {p : Bool} : isNone (.bool p) = false := id rfl
@[simp] theorem ix_list : gIx (.list ds) (.int a) = atI ds a := id rfl
@[simp] theorem ix_tup : gIx (.tuple ds) (.int a) = atI ds a := id rfl
theorem atI_nat {i : Nat} : atI ds (i : Int) = ds[i]? := by
  unfold atI ixN
  rw [if_pos (by omega)]
  by_cases h : (i : Int) < (ds.length : Int)
  · rw [if_pos h]; rfl
  · rw [if_neg h]
    show none = _
    rw [List.getElem?_eq_none (by omega)]
@[simp] theorem atI_0 : atI ds 0 = ds[0]? := atI_nat (i := 0)
@[simp] theorem atI_1 : atI ds 1 = ds[1]? := atI_nat (i := 1)
@[simp] theorem atI_2 : atI ds 2 = ds[2]? := atI_nat (i := 2)
@[simp] theorem atI_3 : atI ds 3 = ds[3]? := atI_nat (i := 3)
theorem atI_of (h : 0 ≤ a) : atI ds a = ds[a.toNat]? := by
  have : (a.toNat : Int) = a := Int.toNat_of_nonneg h
  rw [← this, atI_nat, this]
theorem ixN_of {n : Nat} (h : 0 ≤ a) (h2 : a < n) : ixN n a = some a.toNat := by
  unfold ixN
  rw [if_pos h, if_pos h2]
@[simp] theorem ixN_0 {n : Nat} : ixN (n + 1) 0 = some 0 := ixN_of (by omega) (by omega)
@[simp] theorem ixN_1 {n : Nat} : ixN (n + 2) 1 = some 1 := ixN_of (by omega) (by omega)
@[simp] theorem sl_list' {l u : Option Int} : gSl (.list ds) l u = some (.list (cutD ds l u)) := id rfl
@[simp] theorem sl_tup {l u : Option Int} : gSl (.tuple ds) l u = some (.tuple (cutD ds l u)) := id rfl
theorem cut_from1 : cutD ds (some 1) none = ds.drop 1 := by
  unfold cutD HT.sIx
  have e : HT.sIx ds.length 0 (some 1) = min 1 ds.length := by
    unfold HT.sIx
    simp
    try omega
  simp [HT.sIx] at e ⊢
  cases ds <;> simp_all
@[simp] theorem len_list : gLen [.list ds] = some (.int ds.length) := id rfl
@[simp] theorem len_tup : gLen [.tuple ds] = some (.int ds.length) := id rfl
@[simp] theorem abs_int : gAbs [.int a] = some (.int (if a < 0 then -a else a)) := id rfl
@[simp] theorem int_int : gInt [.int a] = some (.int a) := id rfl
@[simp] theorem gcd_int : gGcd [.int a, .int b] = some (.int (Nat.gcd a.natAbs b.natAbs : Nat)) := id rfl
@[simp] theorem divmod_int : gDivmod [.int a, .int b] = if 0 < b ∧ b < 1073741824 then some (.tuple [.int (a / b), .int (a % b)]) else none := id rfl
@[simp] theorem max_int : gMax [.int a, .int b] = some (.int (if b > a then b else a)) := id rfl
@[simp] theorem min_int : gMin [.int a, .int b] = some (.int (if b < a then b else a)) := id rfl
@[simp] theorem tuple_list : gTuple [.list ds] = some (.tuple ds) := id rfl
@[simp] theorem tuple_tup : gTuple [.tuple ds] = some (.tuple ds) := id rfl
@[simp] theorem listN_list : gListN [.list ds] = some ds := id rfl
@[simp] theorem listN_tup : gListN [.tuple ds] = some ds := id rfl
@[simp] theorem app_one : gApp ds [d] = if ds.length < big then some (.none, ds ++ [d]) else none := id rfl
@[simp] theorem ext_list {es : List PyData} : gExt ds [.list es] = if ds.length + es.length ≤ big then some (.none, ds ++ es) else none := id rfl
@[simp] theorem truth_none : truth .none = some false := id rfl
@[simp] theorem truth_bool {p : Bool} : truth (.bool p) = some p := id rfl
@[simp] theorem truth_list : truth (.list ds) = some (!ds.isEmpty) := id rfl
@[simp] theorem truth_tup : truth (.tuple ds) = some (!ds.isEmpty) := id rfl
@[simp] theorem truth_int : truth (.int a) = some (a != 0) := id rfl
theorem asBools_mapf {α : Type} (l : List α) (f : α → Bool) : asBools (l.map fun z => .bool (f z)) = some (l.map f) := by
  induction l with
  | nil => rfl
  | cons z r ih => simp only [List.map_cons, asBools, ih, Option.map_some]
theorem all_map {α : Type} (l : List α) (f : α → Bool) : gAll [.list (l.map fun z => .bool (f z))] = some (.bool (l.all f)) := by
  show (asBools _).map _ = _
  rw [asBools_mapf]
  simp [List.all_map, Function.comp_def]
theorem any_map {α : Type} (l : List α) (f : α → Bool) : gAny [.list (l.map fun z => .bool (f z))] = some (.bool (l.any f)) := by
  show (asBools _).map _ = _
  rw [asBools_mapf]
  simp [List.any_map, Function.comp_def]
/-! equality -/
theorem shaped_leaf (h : leaf d = true) (h2 : d.canLay0 = true) : SeqAt.shaped d = true := by
  unfold SeqAt.shaped
  rw [h2]
  cases d with
  | list _ => cases h
  | tuple _ => cases h
  | dict _ => cases h
  | _ => simp [PyData.depth]
theorem str_beq : (x == y) = decide (x = y) := by
  rw [Bool.eq_iff_iff]
  simp
theorem eq_sh (h1 : SeqAt.shaped d = true) (h2 : SeqAt.shaped e = true) : gEq d e = some (.bool (PyData.eqv d e)) := by
  unfold gEq
  split
  · rw [← str_beq]; rfl
  · rw [h1, h2]; rfl
theorem ne_sh (h1 : SeqAt.shaped d = true) (h2 : SeqAt.shaped e = true) : gNe d e = some (.bool (!PyData.eqv d e)) := by
  unfold gNe
  split
  · rw [← str_beq]; rfl
  · rw [h1, h2]; rfl
@[simp] theorem eq_int' : gEq (.int a) (.int b) = some (.bool (decide (a = b))) := eq_sh (shaped_leaf rfl rfl) (shaped_leaf rfl rfl)
@[simp] theorem ne_int' : gNe (.int a) (.int b) = some (.bool (!decide (a = b))) := ne_sh (shaped_leaf rfl rfl) (shaped_leaf rfl rfl)
@[simp] theorem eq_str' : gEq (.str x) (.str y) = some (.bool (decide (x = y))) := id rfl
@[simp] theorem ne_str' : gNe (.str x) (.str y) = some (.bool (!decide (x = y))) := id rfl
@[simp] theorem eq_bool' {p q : Bool} : gEq (.bool p) (.bool q) = some (.bool (p == q)) := eq_sh (shaped_leaf rfl rfl) (shaped_leaf rfl rfl)
@[simp] theorem ne_bool' {p q : Bool} : gNe (.bool p) (.bool q) = some (.bool (!(p == q))) := ne_sh (shaped_leaf rfl rfl) (shaped_leaf rfl rfl)
/-! depth and weight by a bound -/
/-- no deeper than k, each list no longer than n, whole numbers and texts small -/
def fit (n : Nat) : Nat → PyData → Bool
  | _, .none => true
  | _, .bool _ => true
  | _, .int i => decide (i.natAbs < 2 ^ 100)
  | _, .str x => PyData.strOk x && decide ((reprText x).length ≤ 100)
  | 0, _ => false
  | k + 1, .list xs => decide (xs.length ≤ n) && xs.all (fit n k)
  | k + 1, .tuple xs => decide (xs.length ≤ n) && xs.all (fit n k)
  | _, .dict _ => false
theorem fit_list {n k : Nat} : fit n (k + 1) (.list ds) = true ↔ ds.length ≤ n ∧ ∀ x ∈ ds, fit n k x = true := by
  show (decide (ds.length ≤ n) && ds.all (fit n k)) = true ↔ _
  rw [Bool.and_eq_true, decide_eq_true_iff, List.all_eq_true]
theorem fit_tup {n k : Nat} : fit n (k + 1) (.tuple ds) = true ↔ ds.length ≤ n ∧ ∀ x ∈ ds, fit n k x = true := by
  show (decide (ds.length ≤ n) && ds.all (fit n k)) = true ↔ _
  rw [Bool.and_eq_true, decide_eq_true_iff, List.all_eq_true]
theorem fit_int {n k : Nat} : fit n k (.int a) = decide (a.natAbs < 2 ^ 100) := by cases k <;> rfl
theorem fit_str {n k : Nat} : fit n k (.str x) = (PyData.strOk x && decide ((reprText x).length ≤ 100)) := by cases k <;> rfl
theorem fit_none {n k : Nat} : fit n k .none = true := by cases k <;> rfl
theorem fit_bool {n k : Nat} {p : Bool} : fit n k (.bool p) = true := by cases k <;> rfl
theorem canLayAll_of : ∀ {ds : List PyData}, (∀ x ∈ ds, x.canLay0 = true) → PyData.canLayAll0 ds = true
  | [], _ => rfl
  | x :: r, h => by
    show (x.canLay0 && PyData.canLayAll0 r) = true
    rw [h x List.mem_cons_self, canLayAll_of fun y hy => h y (List.mem_cons_of_mem _ hy)]
    rfl
theorem depthAll_of {k : Nat} : ∀ {ds : List PyData}, (∀ x ∈ ds, x.depth ≤ k) → PyData.depthAll ds ≤ k
  | [], _ => Nat.zero_le _
  | x :: r, h => by
    show max x.depth (PyData.depthAll r) ≤ k
    exact Nat.max_le.mpr ⟨h x List.mem_cons_self, depthAll_of fun y hy => h y (List.mem_cons_of_mem _ hy)⟩
theorem fit_shape {n : Nat} : ∀ {k : Nat} {d : PyData}, fit n k d = true → d.canLay0 = true ∧ d.depth ≤ k ∧ d.hasDict = false
  | k, .none, _ => ⟨rfl, Nat.zero_le _, rfl⟩
  | k, .bool _, _ => ⟨rfl, Nat.zero_le _, rfl⟩
  | k, .int _, _ => ⟨rfl, Nat.zero_le _, rfl⟩
  | k, .str x, h => by
    rw [fit_str, Bool.and_eq_true] at h
    exact ⟨h.1, Nat.zero_le _, rfl⟩
  | 0, .list _, h => by cases h
  | 0, .tuple _, h => by cases h
  | 0, .dict _, h => by cases h
  | k + 1, .dict _, h => by cases h
  | k + 1, .list xs, h => by
    have h' := (fit_list.mp h).2
    exact ⟨canLayAll_of fun x hx => (fit_shape (h' x hx)).1, Nat.succ_le_succ (depthAll_of fun x hx => (fit_shape (h' x hx)).2.1), hasDict_of fun x hx => (fit_shape (h' x hx)).2.2⟩
  | k + 1, .tuple xs, h => by
    have h' := (fit_tup.mp h).2
    exact ⟨canLayAll_of fun x hx => (fit_shape (h' x hx)).1, Nat.succ_le_succ (depthAll_of fun x hx => (fit_shape (h' x hx)).2.1), hasDict_of fun x hx => (fit_shape (h' x hx)).2.2⟩
where
  hasDict_of : ∀ {ds : List PyData}, (∀ x ∈ ds, x.hasDict = false) → PyData.hasDictAll ds = false
  | [], _ => rfl
  | x :: r, h => by
    show (x.hasDict || PyData.hasDictAll r) = false
    rw [h x List.mem_cons_self, hasDict_of fun y hy => h y (List.mem_cons_of_mem _ hy)]
    rfl
theorem fit_shaped {n k : Nat} (h : fit n k d = true) (hk : k ≤ 64) : SeqAt.shaped d = true := by
  obtain ⟨h1, h2, _⟩ := fit_shape h
  unfold SeqAt.shaped
  rw [h1, decide_eq_true (Nat.le_trans h2 hk)]
  rfl
/-- the weight of a repr -/
def wq (n : Nat) : Nat → Nat
  | 0 => 105
  | k + 1 => n * (wq n k + 2) + 105
theorem wtAll_of {w : Nat} : ∀ {ds : List PyData}, (∀ x ∈ ds, wt x ≤ w) → wtAll ds ≤ ds.length * (w + 2)
  | [], _ => Nat.zero_le _
  | x :: r, h => by
    have h1 := h x List.mem_cons_self
    have h2 := wtAll_of fun y hy => h y (List.mem_cons_of_mem _ hy)
    show wt x + 2 + wtAll r ≤ (r.length + 1) * (w + 2)
    rw [Nat.succ_mul]
    omega
theorem wq_pos {n : Nat} : ∀ k, 105 ≤ wq n k
  | 0 => Nat.le_refl _
  | k + 1 => by show 105 ≤ n * (wq n k + 2) + 105; omega
theorem fit_show {n : Nat} : ∀ {k : Nat} {d : PyData}, fit n k d = true → d.showable = true ∧ wt d ≤ wq n k
  | k, .none, _ => ⟨rfl, Nat.le_trans (by decide : wt .none ≤ 105) (wq_pos k)⟩
  | k, .bool _, _ => ⟨rfl, Nat.le_trans (by decide : 5 ≤ 105) (wq_pos k)⟩
  | k, .int i, h => by
    rw [fit_int, decide_eq_true_iff] at h
    have hl : i.natAbs.log2 < 100 := by
      by_cases h0 : i.natAbs = 0
      · rw [h0]; decide
      · exact (Nat.log2_lt h0).mpr h
    refine ⟨decide_eq_true (by omega), Nat.le_trans ?_ (wq_pos k)⟩
    show i.natAbs.log2 + 3 ≤ 105
    omega
  | k, .str x, h => by
    rw [fit_str, Bool.and_eq_true, decide_eq_true_iff] at h
    exact ⟨rfl, Nat.le_trans (show (reprText x).length ≤ 105 by omega) (wq_pos k)⟩
  | 0, .list _, h => by cases h
  | 0, .tuple _, h => by cases h
  | 0, .dict _, h => by cases h
  | k + 1, .dict _, h => by cases h
  | k + 1, .list xs, h => by
    obtain ⟨hl, h'⟩ := fit_list.mp h
    refine ⟨showAll_of fun x hx => (fit_show (h' x hx)).1, ?_⟩
    have h2 := wtAll_of fun x hx => (fit_show (h' x hx)).2
    have h3 : xs.length * (wq n k + 2) ≤ n * (wq n k + 2) := Nat.mul_le_mul_right _ hl
    show wtAll xs + 2 ≤ n * (wq n k + 2) + 105
    omega
  | k + 1, .tuple xs, h => by
    obtain ⟨hl, h'⟩ := fit_tup.mp h
    refine ⟨showAll_of fun x hx => (fit_show (h' x hx)).1, ?_⟩
    have h2 := wtAll_of fun x hx => (fit_show (h' x hx)).2
    have h3 : xs.length * (wq n k + 2) ≤ n * (wq n k + 2) := Nat.mul_le_mul_right _ hl
    show wtAll xs + 3 ≤ n * (wq n k + 2) + 105
    omega
where
  showAll_of : ∀ {ds : List PyData}, (∀ x ∈ ds, x.showable = true) → PyData.showableAll ds = true
  | [], _ => rfl
  | x :: r, h => by
    show (x.showable && PyData.showableAll r) = true
    rw [h x List.mem_cons_self, showAll_of fun y hy => h y (List.mem_cons_of_mem _ hy)]
    rfl
theorem fit_repr {n k : Nat} (h : fit n k d = true) (hk : k ≤ 40) (hw : wq n k ≤ big) : reprOk d = true := by
  obtain ⟨h1, h2, h3⟩ := fit_shape h
  obtain ⟨h4, h5⟩ := fit_show h
  unfold reprOk
  rw [h4, h3, decide_eq_true (Nat.le_trans h2 hk), decide_eq_true (Nat.le_trans h5 hw)]
  rfl
/-! guards -/
theorem log2_lt {n k : Nat} (h : n < 2 ^ k) (hk : 0 < k) : n.log2 < k := by
  by_cases h0 : n = 0
  · subst h0; simpa using hk
  · exact (Nat.log2_lt h0).mpr h
theorem mulOk_of (h1 : a.natAbs < 2 ^ 200) (h2 : b.natAbs < 2 ^ 200) : mulOk a b = true := by
  have := log2_lt h1 (by omega)
  have := log2_lt h2 (by omega)
  exact decide_eq_true (by omega)
theorem divOk_of (h : b ≠ 0) (h2 : b.natAbs < 2 ^ 200) : divOk b = true := by
  have := log2_lt h2 (by omega)
  unfold divOk
  rw [decide_eq_true h, decide_eq_true (by omega)]
  rfl
/-- small: far below the guards -/
def Sm (a : Int) : Prop := -10 ^ 18 ≤ a ∧ a ≤ 10 ^ 18
theorem sm_lt (h : Sm a) : a.natAbs < 2 ^ 200 := by
  have h1 : (2 : Nat) ^ 64 ≤ 2 ^ 200 := Nat.pow_le_pow_right (by omega) (by omega)
  have h2 := h.1
  have h3 := h.2
  have h4 : a.natAbs ≤ 10 ^ 18 := by omega
  have h5 : (10 : Nat) ^ 18 < 2 ^ 64 := by decide
  omega
theorem mul_sm (h1 : Sm a) (h2 : Sm b) : gMul (.int a) (.int b) = some (.int (a * b)) := by
  rw [mulI_int, if_pos (mulOk_of (sm_lt h1) (sm_lt h2))]
theorem div_sm (h : 0 < b) (h2 : Sm b) : gDiv (.int a) (.int b) = some (.int (a / b)) := by
  rw [div_int, if_pos (divOk_of (by omega) (sm_lt h2)), Int.fdiv_eq_ediv_of_nonneg _ (by omega)]
theorem mod_sm (h : 0 < b) : gMod (.int a) (.int b) = some (.int (a % b)) := by
  rw [mod_int, if_neg (by omega), Int.fmod_eq_emod_of_nonneg _ (by omega)]
end
end Jd
/-! Jd: comprehensions and loops over lists that are told by a map. -/
namespace Jd
open PySem PySem.Spec PyProof.Rows L2
section
variable {α : Type} {vs : List Nat} {t : PyData → En → Option En} {tt : En → Option (Bool × En)} {te : En → Option (PyData × En)} {enc : α → PyData} {f : α → PyData} {q : α → Bool} {Gw : En}
theorem loopLc_filter : ∀ (l : List α), (∀ x ∈ l, ∃ G1, t (enc x) Gw = some G1 ∧ tt G1 = some (q x, G1) ∧ (q x = true → te G1 = some (f x, G1)) ∧ wipeG G1 vs = Gw) → loopLc vs t tt te (l.map enc) Gw = some ((l.filter q).map f, Gw)
  | [], _ => rfl
  | x :: l, h => by
    obtain ⟨G1, e1, e2, e3, e4⟩ := h x List.mem_cons_self
    have ih := loopLc_filter l fun y hy => h y (List.mem_cons_of_mem _ hy)
    show ((t (enc x) Gw).bind fun G1 => (tt G1).bind fun r => if r.1 = true then (te r.2).bind fun q => (loopLc vs t tt te (l.map enc) (wipeG q.2 vs)).bind fun z => some (q.1 :: z.1, z.2)
      else loopLc vs t tt te (l.map enc) (wipeG r.2 vs)) = _
    rw [e1]
    show ((tt G1).bind fun r => if r.1 = true then (te r.2).bind fun q => (loopLc vs t tt te (l.map enc) (wipeG q.2 vs)).bind fun z => some (q.1 :: z.1, z.2)
      else loopLc vs t tt te (l.map enc) (wipeG r.2 vs)) = _
    rw [e2]
    cases hq : q x with
    | true =>
      show ((te G1).bind fun q => (loopLc vs t tt te (l.map enc) (wipeG q.2 vs)).bind fun z => some (q.1 :: z.1, z.2)) = _
      rw [e3 hq]
      show ((loopLc vs t tt te (l.map enc) (wipeG G1 vs)).bind fun z => some (f x :: z.1, z.2)) = _
      rw [e4, ih, List.filter_cons_of_pos hq]
      rfl
    | false =>
      show loopLc vs t tt te (l.map enc) (wipeG G1 vs) = _
      rw [e4, ih, List.filter_cons_of_neg (by rw [hq]; exact Bool.false_ne_true)]
theorem loopLc_map (l : List α) (h : ∀ x ∈ l, ∃ G1, t (enc x) Gw = some G1 ∧ tt G1 = some (true, G1) ∧ te G1 = some (f x, G1) ∧ wipeG G1 vs = Gw) : loopLc vs t tt te (l.map enc) Gw = some (l.map f, Gw) := by
  have := loopLc_filter (q := fun _ => true) l fun x hx => by
    obtain ⟨G1, a, b, c, d⟩ := h x hx
    exact ⟨G1, a, b, fun _ => c, d⟩
  rw [this, List.filter_eq_self.mpr fun _ _ => rfl]
end
/-- one turn of a for -/
def stepK (a : Option (Fl × En)) (t : PyData → En → Option En) (f : En → Option (Fl × En)) (ds : List PyData) : Option (Fl × En) := match a with
  | some (.nx, G) => loopFor t f ds G
  | some (.cont, G) => loopFor t f ds G
  | some (.brk, G) => some (.nx, G)
  | some (.ret x, G) => some (.ret x, G)
  | none => none
theorem loop_cons {t : PyData → En → Option En} {f : En → Option (Fl × En)} {d : PyData} {ds : List PyData} {G G1 : En} (h : t d G = some G1) : loopFor t f (d :: ds) G = stepK (f G1) t f ds := by
  show ((t d G).bind fun G1 => (f G1).bind fun r => match r.1 with
    | .nx => loopFor t f ds r.2
    | .cont => loopFor t f ds r.2
    | .brk => some (.nx, r.2)
    | .ret x => some (.ret x, r.2)) = _
  rw [h]
  show ((f G1).bind fun r => match r.1 with
    | .nx => loopFor t f ds r.2
    | .cont => loopFor t f ds r.2
    | .brk => some (.nx, r.2)
    | .ret x => some (.ret x, r.2)) = _
  cases f G1 with
  | none => rfl
  | some r => obtain ⟨fl, G2⟩ := r; cases fl <;> rfl
@[simp] theorem loop_nil {t : PyData → En → Option En} {f : En → Option (Fl × En)} {G : En} : loopFor t f [] G = some (.nx, G) := id rfl
@[simp] theorem stepK_nx {t : PyData → En → Option En} {f : En → Option (Fl × En)} {ds : List PyData} {G : En} : stepK (some (.nx, G)) t f ds = loopFor t f ds G := id rfl
@[simp] theorem stepK_cont {t : PyData → En → Option En} {f : En → Option (Fl × En)} {ds : List PyData} {G : En} : stepK (some (.cont, G)) t f ds = loopFor t f ds G := id rfl
@[simp] theorem stepK_brk {t : PyData → En → Option En} {f : En → Option (Fl × En)} {ds : List PyData} {G : En} : stepK (some (.brk, G)) t f ds = some (.nx, G) := id rfl
@[simp] theorem stepK_ret {t : PyData → En → Option En} {f : En → Option (Fl × En)} {ds : List PyData} {G : En} {x : Rv} : stepK (some (.ret x, G)) t f ds = some (.ret x, G) := id rfl
theorem range_map (n : Nat) : rangeD 0 n = (List.range n).map fun (i : Nat) => PyData.int (i : Int) := by
  unfold rangeD
  simp
theorem zip_map {α β : Type} (a : α → PyData) (b : β → PyData) : ∀ (l : List α) (m : List β), zipD (l.map a) (m.map b) = (l.zip m).map fun p => .tuple [a p.1, b p.2]
  | [], _ => by simp [zipD]
  | _ :: _, [] => rfl
  | x :: l, y :: m => by
    show PyData.tuple [a x, b y] :: zipD (l.map a) (m.map b) = _
    rw [zip_map a b l m]
    rfl
theorem enum_map {α : Type} (a : α → PyData) : ∀ (k : Nat) (l : List α), enumD k (l.map a) = (l.zipIdx k).map fun p => .tuple [.int (p.2 : Nat), a p.1]
  | _, [] => rfl
  | k, x :: l => by
    show PyData.tuple [.int (k : Nat), a x] :: enumD (k + 1) (l.map a) = _
    rw [enum_map a (k + 1) l]
    rfl
end Jd
/-! Jd: ratios: pairs in lowest terms as rational numbers. -/
namespace Jd
open PySem PySem.Spec PyProof.Rows L2
/-- a ratio as the program writes it -/
def rq (q : Rat) : PyData := .tuple [.int q.num, .int q.den]
theorem rq_inj {p q : Rat} : rq p = rq q ↔ p = q := by
  refine ⟨fun h => ?_, fun h => by rw [h]⟩
  unfold rq at h
  simp at h
  exact Rat.ext h.1 (by omega)
/-- top over bottom in lowest terms -/
theorem rq_div {a b : Int} (hb : b ≠ 0) : rq (Rat.divInt a b) = .tuple [.int (b.sign * a / (b.gcd a : Nat)), .int ((b.natAbs / b.gcd a : Nat) : Int)] := by
  unfold rq
  rw [Rat.num_divInt, Rat.den_divInt, if_neg hb]
theorem div_add (p q : Rat) : Rat.divInt (p.num * q.den + q.num * p.den) (p.den * q.den) = p + q := by
  rw [Rat.add_def', ← Rat.divInt_ofNat, Int.natCast_mul]
theorem div_sub (p q : Rat) : Rat.divInt (p.num * q.den - q.num * p.den) (p.den * q.den) = p - q := by
  rw [Rat.sub_def', ← Rat.divInt_ofNat, Int.natCast_mul]
theorem div_mul (p q : Rat) : Rat.divInt (p.num * q.num) (p.den * q.den) = p * q := by
  rw [Rat.mul_def', ← Rat.divInt_ofNat, Int.natCast_mul]
theorem div_div {p q : Rat} (h : q ≠ 0) : Rat.divInt (p.num * q.den) (p.den * q.num) = p / q := by
  rw [Rat.div_def, Rat.inv_def]
  conv => rhs; rw [← Rat.num_divInt_den p]
  rw [Rat.divInt_mul_divInt]
theorem den_ne (p q : Rat) : ((p.den : Int) * q.den) ≠ 0 := by
  have h1 := p.den_pos
  have h2 := q.den_pos
  have := Int.mul_pos (show (0 : Int) < p.den by omega) (show (0 : Int) < q.den by omega)
  omega
theorem num_ne {q : Rat} (h : q ≠ 0) : q.num ≠ 0 := fun e => h (Rat.num_eq_zero.mp e)
/-- small numbers -/
def Bq (k : Nat) (q : Rat) : Prop := q.num.natAbs < 2 ^ k ∧ q.den < 2 ^ k
theorem Bq.mono {j k : Nat} {q : Rat} (h : Bq j q) (l : j ≤ k) : Bq k q :=
  ⟨Nat.lt_of_lt_of_le h.1 (Nat.pow_le_pow_right (by omega) l), Nat.lt_of_lt_of_le h.2 (Nat.pow_le_pow_right (by omega) l)⟩
theorem div_le_num (a : Int) {b : Int} (hb : b ≠ 0) : (Rat.divInt a b).num.natAbs ≤ a.natAbs := by
  rw [Rat.num_divInt, Int.natAbs_ediv_of_dvd]
  · rw [Int.natAbs_mul]
    have : b.sign.natAbs = 1 := Int.natAbs_sign_of_ne_zero hb
    rw [this, Nat.one_mul]
    exact Nat.div_le_self _ _
  · exact Int.dvd_trans (by rw [Int.gcd_comm]; exact Int.gcd_dvd_left ..) (Int.dvd_mul_left _ _)
theorem div_le_den (a : Int) {b : Int} (hb : b ≠ 0) : (Rat.divInt a b).den ≤ b.natAbs := by
  rw [Rat.den_divInt, if_neg hb]
  exact Nat.div_le_self _ _
theorem lt_mul2 {a b j k : Nat} (ha : a < 2 ^ j) (hb : b < 2 ^ k) : a * b < 2 ^ (j + k) := by
  rw [Nat.pow_add]
  exact Nat.mul_lt_mul'' ha hb
theorem Bq.add {j k : Nat} {p q : Rat} (hp : Bq j p) (hq : Bq k q) : Bq (j + k + 1) (p + q) := by
  have h1 := lt_mul2 hp.1 hq.2
  have h2 := lt_mul2 hq.1 hp.2
  have h3 := lt_mul2 hp.2 hq.2
  have e : 2 ^ (k + j) = 2 ^ (j + k) := by rw [Nat.add_comm]
  rw [e] at h2
  rw [← div_add]
  refine ⟨Nat.lt_of_le_of_lt (div_le_num _ (den_ne p q)) ?_, Nat.lt_of_le_of_lt (div_le_den _ (den_ne p q)) ?_⟩
  · have t := Int.natAbs_add_le (p.num * q.den) (q.num * p.den)
    rw [Int.natAbs_mul, Int.natAbs_mul, Int.natAbs_natCast, Int.natAbs_natCast] at t
    rw [Nat.pow_succ]; omega
  · rw [Int.natAbs_mul, Int.natAbs_natCast, Int.natAbs_natCast, Nat.pow_succ]; omega
theorem Bq.neg {k : Nat} {p : Rat} (hp : Bq k p) : Bq k (-p) := by
  unfold Bq
  rw [Rat.neg_num, Rat.neg_den, Int.natAbs_neg]
  exact hp
theorem Bq.sub {j k : Nat} {p q : Rat} (hp : Bq j p) (hq : Bq k q) : Bq (j + k + 1) (p - q) := by
  rw [Rat.sub_eq_add_neg]
  exact hp.add hq.neg
theorem Bq.mul {j k : Nat} {p q : Rat} (hp : Bq j p) (hq : Bq k q) : Bq (j + k) (p * q) := by
  rw [← div_mul]
  refine ⟨Nat.lt_of_le_of_lt (div_le_num _ (den_ne p q)) ?_, Nat.lt_of_le_of_lt (div_le_den _ (den_ne p q)) ?_⟩
  · rw [Int.natAbs_mul]; exact lt_mul2 hp.1 hq.1
  · rw [Int.natAbs_mul, Int.natAbs_natCast, Int.natAbs_natCast]; exact lt_mul2 hp.2 hq.2
theorem Bq.div {j k : Nat} {p q : Rat} (hp : Bq j p) (hq : Bq k q) (h : q ≠ 0) : Bq (j + k) (p / q) := by
  have n : ((p.den : Int) * q.num) ≠ 0 := Int.mul_ne_zero (by have := p.den_pos; omega) (num_ne h)
  rw [← div_div h]
  refine ⟨Nat.lt_of_le_of_lt (div_le_num _ n) ?_, Nat.lt_of_le_of_lt (div_le_den _ n) ?_⟩
  · rw [Int.natAbs_mul, Int.natAbs_natCast]; exact lt_mul2 hp.1 hq.2
  · rw [Int.natAbs_mul, Int.natAbs_natCast]; exact lt_mul2 hp.2 hq.1
theorem Bq.int {k : Nat} {a : Int} (h : a.natAbs < 2 ^ k) (hk : 0 < k) : Bq k (a : Rat) := by
  refine ⟨h, ?_⟩
  show 1 < 2 ^ k
  exact Nat.one_lt_two_pow (by omega)
theorem rq_int (a : Int) : rq (a : Rat) = .tuple [.int a, .int 1] := rfl
/-! guards -/
theorem log2_le {n k : Nat} (h : n < 2 ^ k) : n.log2 ≤ k := by
  by_cases h0 : n = 0
  · subst h0; exact Nat.zero_le _
  · exact Nat.le_of_lt ((Nat.log2_lt h0).mpr h)
theorem mulOk_k {a b : Int} {j k : Nat} (ha : a.natAbs < 2 ^ j) (hb : b.natAbs < 2 ^ k) (h : j + k ≤ 9000 := by decide) : mulOk a b = true := by
  have := log2_le ha
  have := log2_le hb
  exact decide_eq_true (by omega)
theorem divOk_k {b : Int} {k : Nat} (h0 : b ≠ 0) (hb : b.natAbs < 2 ^ k) (h : k ≤ 8000 := by decide) : divOk b = true := by
  have := log2_le hb
  unfold divOk
  rw [decide_eq_true h0, decide_eq_true (by omega)]
  rfl
/-! the top and the bottom in lowest terms -/
theorem gcd_swap (a b : Int) : b.gcd a = Nat.gcd a.natAbs b.natAbs := by rw [Int.gcd_comm]; rfl
theorem gcd_pos {a b : Int} (hb : b ≠ 0) : 0 < Nat.gcd a.natAbs b.natAbs := Nat.gcd_pos_of_pos_right _ (by omega)
theorem num_of {a b : Int} (hb : b ≠ 0) : (Rat.divInt a b).num = b.sign * a / (Nat.gcd a.natAbs b.natAbs : Nat) := by rw [Rat.num_divInt, gcd_swap]
theorem den_of {a b : Int} (hb : b ≠ 0) : ((Rat.divInt a b).den : Int) = (b.natAbs : Int) / (Nat.gcd a.natAbs b.natAbs : Nat) := by
  rw [Rat.den_divInt, if_neg hb, gcd_swap, Int.natCast_ediv]
theorem mk_pos {a b : Int} (hb : 0 < b) : a.fdiv (Nat.gcd a.natAbs b.natAbs : Nat) = (Rat.divInt a b).num ∧ b.fdiv (Nat.gcd a.natAbs b.natAbs : Nat) = (Rat.divInt a b).den := by
  have h0 : b ≠ 0 := by omega
  rw [num_of h0, den_of h0, Int.sign_eq_one_of_pos hb, Int.one_mul, Int.fdiv_eq_ediv_of_nonneg _ (by omega), Int.fdiv_eq_ediv_of_nonneg _ (by omega)]
  refine ⟨rfl, ?_⟩
  congr 1
  omega
theorem fdiv_neg_exact {x g : Int} (h : g ∣ x) (hg : g ≠ 0) : x.fdiv (-g) = (-x) / g := by
  obtain ⟨c, rfl⟩ := h
  rw [show g * c = (-g) * (-c) by rw [Int.neg_mul_neg], Int.mul_fdiv_cancel_left _ (by omega), ← Int.neg_mul, Int.neg_neg, Int.mul_ediv_cancel_left _ hg]
theorem mk_neg {a b : Int} (hb : b < 0) : a.fdiv (-(Nat.gcd a.natAbs b.natAbs : Nat) : Int) = (Rat.divInt a b).num ∧ b.fdiv (-(Nat.gcd a.natAbs b.natAbs : Nat) : Int) = (Rat.divInt a b).den := by
  have h0 : b ≠ 0 := by omega
  have g0 := gcd_pos (a := a) h0
  have d1 : ((Nat.gcd a.natAbs b.natAbs : Nat) : Int) ∣ a := Int.ofNat_dvd_left.mpr (Nat.gcd_dvd_left _ _)
  have d2 : ((Nat.gcd a.natAbs b.natAbs : Nat) : Int) ∣ b := Int.ofNat_dvd_left.mpr (Nat.gcd_dvd_right _ _)
  rw [num_of h0, den_of h0, Int.sign_eq_neg_one_of_neg hb, fdiv_neg_exact d1 (by omega), fdiv_neg_exact d2 (by omega)]
  refine ⟨by rw [Int.neg_one_mul], ?_⟩
  congr 1
  omega
theorem mk_own {a b : Int} (hb : b ≠ 0) : ((if b < 0 then -1 else 1) * a).fdiv (Nat.gcd a.natAbs b.natAbs : Nat) = (Rat.divInt a b).num ∧ (if b < 0 then -b else b).fdiv (Nat.gcd a.natAbs b.natAbs : Nat) = (Rat.divInt a b).den := by
  rw [num_of hb, den_of hb, Int.fdiv_eq_ediv_of_nonneg _ (by omega), Int.fdiv_eq_ediv_of_nonneg _ (by omega)]
  by_cases c : b < 0
  · rw [if_pos c, if_pos c, Int.sign_eq_neg_one_of_neg c]
    refine ⟨rfl, ?_⟩
    congr 1
    omega
  · rw [if_neg c, if_neg c, Int.sign_eq_one_of_pos (by omega)]
    refine ⟨rfl, ?_⟩
    congr 1
    omega
/-! Euclid's loop -/
theorem loopW_go {t : En → Option (Bool × En)} {f : En → Option (Fl × En)} {n : Nat} {G G1 G2 : En} (h1 : t G = some (true, G1)) (h2 : f G1 = some (.nx, G2)) : loopW t f (n + 1) G = loopW t f n G2 := by
  show (t G).bind _ = _
  rw [h1]
  show (f G1).bind _ = _
  rw [h2]
  rfl
theorem loopW_end {t : En → Option (Bool × En)} {f : En → Option (Fl × En)} {n : Nat} {G G1 : En} (h1 : t G = some (false, G1)) : loopW t f (n + 1) G = some (.nx, G1) := by
  show (t G).bind _ = _
  rw [h1]
  rfl
theorem mod_half {b r : Nat} (hr : r < b) (h0 : r ≠ 0) : 2 * (b % r) < b := by
  have h1 := Nat.mod_lt b (Nat.pos_of_ne_zero h0)
  have h2 := Nat.div_add_mod b r
  have h3 : 1 ≤ b / r := Nat.div_pos (by omega) (by omega)
  have h4 : r * 1 ≤ r * (b / r) := Nat.mul_le_mul_left r h3
  omega
theorem euclid {t : En → Option (Bool × En)} {f : En → Option (Fl × En)} {st : Nat → Nat → En} (h0 : ∀ a, t (st a 0) = some (false, st a 0)) (h1 : ∀ a b, b ≠ 0 → t (st a b) = some (true, st a b)) (h2 : ∀ a b, b ≠ 0 → f (st a b) = some (.nx, st b (a % b))) :
    ∀ (k fuel a b : Nat), b < 2 ^ k → 2 * k < fuel → loopW t f fuel (st a b) = some (.nx, st (Nat.gcd a b) 0)
  | _, 0, _, _, _, h => by omega
  | 0, fuel + 1, a, b, hb, _ => by
    have : b = 0 := by simpa using hb
    subst this
    rw [loopW_end (h0 a), Nat.gcd_zero_right]
  | k + 1, fuel + 1, a, b, hb, hf => by
    by_cases c : b = 0
    · subst c
      rw [loopW_end (h0 a), Nat.gcd_zero_right]
    · rw [loopW_go (h1 a b c) (h2 a b c)]
      obtain ⟨fuel, rfl⟩ : ∃ m, fuel = m + 1 := ⟨fuel - 1, by omega⟩
      have rl := Nat.mod_lt a (Nat.pos_of_ne_zero c)
      have e1 : Nat.gcd a b = Nat.gcd b (a % b) := by rw [Nat.gcd_comm a b, Nat.gcd_rec b a, Nat.gcd_comm (a % b) b]
      rw [e1]
      by_cases c2 : a % b = 0
      · rw [c2, loopW_end (h0 b), Nat.gcd_zero_right]
      · rw [loopW_go (h1 b (a % b) c2) (h2 b (a % b) c2)]
        have e2 : Nat.gcd b (a % b) = Nat.gcd (a % b) (b % (a % b)) := by rw [Nat.gcd_comm b (a % b), Nat.gcd_rec (a % b) b, Nat.gcd_comm (b % (a % b)) (a % b)]
        rw [e2]
        have hh := mod_half rl c2
        rw [Nat.pow_succ] at hb
        exact euclid h0 h1 h2 k fuel (a % b) (b % (a % b)) (by omega) (by omega)
theorem ab_nat (x : Int) : (if x < 0 then -x else x) = (x.natAbs : Int) := by split <;> omega
/-! loops -/
theorem at_succ {ds : List PyData} (i : Nat) : atI ds ((i : Int) + 1) = ds[i + 1]? := atI_nat (i := i + 1)
theorem at_succ2 {ds : List PyData} (i : Nat) : atI ds ((i : Int) + 2) = ds[i + 2]? := atI_nat (i := i + 2)
section
variable {α σ : Type} {t : PyData → En → Option En} {body : En → Option (Fl × En)} {enc : α → PyData}
/-- a loop that appends -/
theorem loop_app {g : α → PyData} {st : List PyData → σ → En} : ∀ (l : List α), (∀ x ∈ l, ∀ acc s, acc.length + 1 ≤ 1000 → ∃ G1 s', t (enc x) (st acc s) = some G1 ∧ body G1 = some (.nx, st (acc ++ [g x]) s')) →
    ∀ acc s, acc.length + l.length ≤ 1000 → ∃ s', loopFor t body (l.map enc) (st acc s) = some (.nx, st (acc ++ l.map g) s')
  | [], _, acc, s, _ => ⟨s, by simp⟩
  | x :: l, h, acc, s, hl => by
    have hl' : acc.length + (l.length + 1) ≤ 1000 := hl
    obtain ⟨G1, s1, e1, e2⟩ := h x List.mem_cons_self acc s (by omega)
    obtain ⟨s2, e3⟩ := loop_app l (fun y hy => h y (List.mem_cons_of_mem _ hy)) (acc ++ [g x]) s1 (by rw [List.length_append]; simp; omega)
    refine ⟨s2, ?_⟩
    show loopFor t body (enc x :: l.map enc) _ = _
    rw [loop_cons e1, e2, stepK_nx, e3, List.append_assoc]
    rfl
/-- a loop that goes on or returns -/
theorem loop_find {p : α → Bool} {r : α → Rv} {st : σ → En} : ∀ (l : List α), (∀ x ∈ l, ∀ s, ∃ G1, t (enc x) (st s) = some G1 ∧ (p x = true → ∃ G2, body G1 = some (.ret (r x), G2)) ∧ (p x = false → ∃ s', body G1 = some (.nx, st s'))) →
    ∀ s, (l.any p = false → ∃ s', loopFor t body (l.map enc) (st s) = some (.nx, st s')) ∧ (l.any p = true → ∃ x ∈ l, p x = true ∧ ∃ G2, loopFor t body (l.map enc) (st s) = some (.ret (r x), G2))
  | [], _, s => ⟨fun _ => ⟨s, rfl⟩, fun h => by simp at h⟩
  | x :: l, h, s => by
    obtain ⟨G1, e1, e2, e3⟩ := h x List.mem_cons_self s
    have ih := loop_find l fun y hy => h y (List.mem_cons_of_mem _ hy)
    cases c : p x with
    | true =>
      obtain ⟨G2, e4⟩ := e2 c
      refine ⟨fun q => by simp [c] at q, fun _ => ⟨x, List.mem_cons_self, c, G2, ?_⟩⟩
      show loopFor t body (enc x :: l.map enc) _ = _
      rw [loop_cons e1, e4, stepK_ret]
    | false =>
      obtain ⟨s', e4⟩ := e3 c
      have e5 : loopFor t body ((x :: l).map enc) (st s) = loopFor t body (l.map enc) (st s') := by
        show loopFor t body (enc x :: l.map enc) _ = _
        rw [loop_cons e1, e4, stepK_nx]
      rw [e5, List.any_cons, c, Bool.false_or]
      refine ⟨(ih s').1, fun q => ?_⟩
      obtain ⟨y, hy, r1⟩ := (ih s').2 q
      exact ⟨y, List.mem_cons_of_mem _ hy, r1⟩
end
end Jd
namespace Q13
open PySem PySem.Spec PyProof.Rows L2 Jd
def f_is_list : En → Option (Fl × En) := dSeq (dRet (dIsi [.list, .tuple] (dPv 0)))
      (dNx)
def g_is_list : List PyData → Option Rv := runD 1 f_is_list
def f_is_integer : En → Option (Fl × En) := dSeq (dRet (dAnd (dIsi [.int] (dPv 0)) (dNot (dIsi [.bool] (dPv 0)))))
      (dNx)
def g_is_integer : List PyData → Option Rv := runD 1 f_is_integer
def f_made : En → Option (Fl × En) := dSeq (dSet 2 (dOp gMul (dAg (dFn gGcd (dPsC (dPv 0) (dPsC (dPv 1) (dPs0))))) (dAg (dIf (dB (dOp gGt (dPv 1) (dAg (dC (.int 0))))) (dC (.int 1)) (dUn gNeg (dAg (dC (.int 1))))))))
      (dSeq (dRet (dTup (dEsC (dOp gDiv (dPv 0) (dPv 2)) (dEsC (dOp gDiv (dPv 1) (dPv 2)) (dEs0)))))
      (dNx))
def g_made : List PyData → Option Rv := runD 3 f_made
def b_common_0 : En → Option (Fl × En) := dSeq (dSet 1 (dOp gMul (dAg (dOp gDiv (dPv 1) (dAg (dFn gGcd (dPsC (dPv 1) (dPsC (dPv 3) (dPs0))))))) (dPv 3)))
      (dNx)
def f_common : En → Option (Fl × En) := dSeq (dSet 1 (dC (.int 1)))
      (dSeq (dFor (diSeq (dVar 0)) (dgT 2 (dgsC (dgN 2) (dgsC (dgN 3) (dgs0)))) (b_common_0))
      (dSeq (dRet (dVar 1))
      (dNx)))
def g_common : List PyData → Option Rv := runD 4 f_common
def f_r_less : En → Option (Fl × En) := dSeq (dRet (dOp gLt (dAg (dOp gMul (dAg (dOp gIx (dPv 0) (dAg (dC (.int 0))))) (dAg (dOp gIx (dPv 1) (dAg (dC (.int 1))))))) (dAg (dOp gMul (dAg (dOp gIx (dPv 1) (dAg (dC (.int 0))))) (dAg (dOp gIx (dPv 0) (dAg (dC (.int 1)))))))))
      (dNx)
def g_r_less : List PyData → Option Rv := runD 2 f_r_less
def f__law_pot : En → Option (Fl × En) := dSeq (dSet 2 (dIf (dB (dOp gLt (dPv 1) (dAg (dFn gLen (dPsC (dPv 0) (dPs0)))))) (dFn gAbs (dPsC (dAg (dOp gIx (dPv 0) (dPv 1))) (dPs0))) (dOp gAdd (dAg (dOp gMul (dAg (dC (.int 673))) (dPv 1))) (dAg (dC (.int 919))))))
      (dSeq (dSet 3 (dOp gAdd (dAg (dOp gMod (dAg (dFn gInt (dPsC (dAg (dOp gAdd (dAg (dOp gAdd (dAg (dOp gMul (dAg (dOp gMod (dAg (dFn gInt (dPsC (dPv 2) (dPs0)))) (dAg (dC (.int 2147483549))))) (dAg (dC (.int 39373))))) (dAg (dOp gMul (dAg (dC (.int 4229))) (dPv 1))))) (dAg (dC (.int 137))))) (dPs0)))) (dAg (dC (.int 2147483563))))) (dAg (dC (.int 1)))))
      (dSeq (dRetN (dLst (dEsC (dFn gMax (dPsC (dAg (dC (.int 0))) (dPsC (dAg (dOp gSub (dPv 2) (dAg (dOp gPow (dAg (dC (.int 10))) (dAg (dC (.int 18))))))) (dPs0)))) (dEsC (dVar 3) (dEs0)))))
      (dNx)))
def g__law_pot : List PyData → Option Rv := runD 4 f__law_pot
def f__law_draw : En → Option (Fl × En) := dSeq (dIfS (dB (dOp gGt (dAg (dOp gIx (dPv 0) (dAg (dC (.int 0))))) (dAg (dC (.int 0))))) (dSeq (dSet 2 (dOp gMod (dAg (dFn gInt (dPsC (dAg (dOp gIx (dPv 0) (dAg (dC (.int 0))))) (dPs0)))) (dPv 1)))
      (dSeq (dAsg (dOp gDiv (dAg (dFn gInt (dPsC (dAg (dOp gIx (dPv 0) (dAg (dC (.int 0))))) (dPs0)))) (dPv 1)) (dgS 0 (dC (.int 0))))
      (dSeq (dRet (dVar 2))
      (dNx)))) (dNx))
      (dSeq (dAsg (dOp gMod (dAg (dFn gInt (dPsC (dAg (dOp gAdd (dAg (dOp gMul (dAg (dOp gIx (dPv 0) (dAg (dC (.int 1))))) (dAg (dC (.int 39373))))) (dAg (dC (.int 4229))))) (dPs0)))) (dAg (dC (.int 2147483549)))) (dgS 0 (dC (.int 1))))
      (dSeq (dRet (dOp gMod (dAg (dFn gInt (dPsC (dAg (dOp gDiv (dAg (dOp gMod (dAg (dFn gInt (dPsC (dAg (dOp gMul (dAg (dOp gIx (dPv 0) (dAg (dC (.int 1))))) (dAg (dOp gIx (dPv 0) (dAg (dC (.int 1))))))) (dPs0)))) (dAg (dC (.int 2147483563))))) (dAg (dC (.int 19))))) (dPs0)))) (dPv 1)))
      (dNx)))
def g__law_draw : List PyData → List PyData → Option (Rv × List PyData) := runL 3 f__law_draw
def b__law_frac_0 : En → Option (Fl × En) := dSeq (dPar2 2 3 (dRsE (dVar 3) (dRsE (dOp gMod (dAg (dFn gInt (dPsC (dPv 2) (dPs0)))) (dPv 3)) (dRs0))))
      (dNx)
def f__law_frac : En → Option (Fl × En) := dSeq (dPar2 2 3 (dRsE (dFn gAbs (dPsC (dPv 0) (dPs0))) (dRsE (dFn gAbs (dPsC (dPv 1) (dPs0))) (dRs0))))
      (dSeq (dWhile WF (dB (dOp gGt (dPv 3) (dAg (dC (.int 0))))) (b__law_frac_0))
      (dSeq (dSet 4 (dIf (dB (dOp gLt (dPv 1) (dAg (dC (.int 0))))) (dUn gNeg (dAg (dC (.int 1)))) (dC (.int 1))))
      (dSeq (dRet (dTup (dEsC (dOp gDiv (dAg (dOp gMul (dPv 4) (dPv 0))) (dPv 2)) (dEsC (dOp gDiv (dAg (dOp gMul (dPv 4) (dPv 1))) (dPv 2)) (dEs0)))))
      (dNx))))
def g__law_frac : List PyData → Option Rv := runD 5 f__law_frac
def f__law_below : En → Option (Fl × En) := dSeq (dRet (dOp gLt (dAg (dOp gMul (dAg (dOp gIx (dPv 0) (dAg (dC (.int 0))))) (dAg (dOp gIx (dPv 1) (dAg (dC (.int 1))))))) (dAg (dOp gMul (dAg (dOp gIx (dPv 1) (dAg (dC (.int 0))))) (dAg (dOp gIx (dPv 0) (dAg (dC (.int 1)))))))))
      (dNx)
def g__law_below : List PyData → Option Rv := runD 2 f__law_below
def f__law_pair : En → Option (Fl × En) := dSeq (dRet (dIf (dTr (dAg (dIsi [.int] (dPv 0)))) (dTup (dEsC (dVar 0) (dEsC (dC (.int 1)) (dEs0)))) (dVar 0)))
      (dNx)
def g__law_pair : List PyData → Option Rv := runD 1 f__law_pair
def c_is_ratio_0 : En → Option (List PyData × En) := dLc [1] (diSeq (dVar 0)) (dgN 1) (dYes) (dCall 1 g_is_integer (dEsC (dVar 1) (dEs0)))
def f_is_ratio : En → Option (Fl × En) := dSeq (dIfS (dOrT (dNotT (dTr (dAg (dIsi [.tuple] (dPv 0))))) (dOrT (dB (dOp gNe (dAg (dFn gLen (dPsC (dPv 0) (dPs0)))) (dAg (dC (.int 2))))) (dNotT (dTr (dAg (dFn gAll (dPsC (dAg (dFz (c_is_ratio_0))) (dPs0)))))))) (dSeq (dRet (dC (.bool false)))
      (dNx)) (dNx))
      (dSeq (dRet (dAnd (dOp gGe (dAg (dOp gIx (dPv 0) (dAg (dC (.int 1))))) (dAg (dC (.int 1)))) (dOp gEq (dAg (dFn gGcd (dPsC (dAg (dOp gIx (dPv 0) (dAg (dC (.int 0))))) (dPsC (dAg (dOp gIx (dPv 0) (dAg (dC (.int 1))))) (dPs0))))) (dAg (dC (.int 1))))))
      (dNx))
def g_is_ratio : List PyData → Option Rv := runD 2 f_is_ratio
def f_pair_of : En → Option (Fl × En) := dSeq (dRet (dIf (dTr (dAg (dCall 1 g_is_integer (dEsC (dVar 0) (dEs0))))) (dTup (dEsC (dVar 0) (dEsC (dC (.int 1)) (dEs0)))) (dVar 0)))
      (dNx)
def g_pair_of : List PyData → Option Rv := runD 1 f_pair_of
def f_r_plus : En → Option (Fl × En) := dSeq (dRet (dCall 2 g_made (dEsC (dOp gAdd (dAg (dOp gMul (dAg (dOp gIx (dPv 0) (dAg (dC (.int 0))))) (dAg (dOp gIx (dPv 1) (dAg (dC (.int 1))))))) (dAg (dOp gMul (dAg (dOp gIx (dPv 1) (dAg (dC (.int 0))))) (dAg (dOp gIx (dPv 0) (dAg (dC (.int 1)))))))) (dEsC (dOp gMul (dAg (dOp gIx (dPv 0) (dAg (dC (.int 1))))) (dAg (dOp gIx (dPv 1) (dAg (dC (.int 1)))))) (dEs0)))))
      (dNx)
def g_r_plus : List PyData → Option Rv := runD 2 f_r_plus
def f_r_minus : En → Option (Fl × En) := dSeq (dRet (dCall 2 g_made (dEsC (dOp gSub (dAg (dOp gMul (dAg (dOp gIx (dPv 0) (dAg (dC (.int 0))))) (dAg (dOp gIx (dPv 1) (dAg (dC (.int 1))))))) (dAg (dOp gMul (dAg (dOp gIx (dPv 1) (dAg (dC (.int 0))))) (dAg (dOp gIx (dPv 0) (dAg (dC (.int 1)))))))) (dEsC (dOp gMul (dAg (dOp gIx (dPv 0) (dAg (dC (.int 1))))) (dAg (dOp gIx (dPv 1) (dAg (dC (.int 1)))))) (dEs0)))))
      (dNx)
def g_r_minus : List PyData → Option Rv := runD 2 f_r_minus
def f_r_times : En → Option (Fl × En) := dSeq (dRet (dCall 2 g_made (dEsC (dOp gMul (dAg (dOp gIx (dPv 0) (dAg (dC (.int 0))))) (dAg (dOp gIx (dPv 1) (dAg (dC (.int 0)))))) (dEsC (dOp gMul (dAg (dOp gIx (dPv 0) (dAg (dC (.int 1))))) (dAg (dOp gIx (dPv 1) (dAg (dC (.int 1)))))) (dEs0)))))
      (dNx)
def g_r_times : List PyData → Option Rv := runD 2 f_r_times
def f_r_over : En → Option (Fl × En) := dSeq (dRet (dCall 2 g_made (dEsC (dOp gMul (dAg (dOp gIx (dPv 0) (dAg (dC (.int 0))))) (dAg (dOp gIx (dPv 1) (dAg (dC (.int 1)))))) (dEsC (dOp gMul (dAg (dOp gIx (dPv 0) (dAg (dC (.int 1))))) (dAg (dOp gIx (dPv 1) (dAg (dC (.int 0)))))) (dEs0)))))
      (dNx)
def g_r_over : List PyData → Option Rv := runD 2 f_r_over
def c_r_total_0 : En → Option (List PyData × En) := dLc [2, 3] (diSeq (dVar 0)) (dgT 2 (dgsC (dgN 2) (dgsC (dgN 3) (dgs0)))) (dYes) (dOp gMul (dPv 2) (dAg (dOp gDiv (dPv 1) (dPv 3))))
def f_r_total : En → Option (Fl × En) := dSeq (dSet 1 (dCall 1 g_common (dEsC (dVar 0) (dEs0))))
      (dSeq (dRet (dCall 2 g_made (dEsC (dFn gSum (dPsC (dAg (dFz (c_r_total_0))) (dPs0))) (dEsC (dVar 1) (dEs0)))))
      (dNx))
def g_r_total : List PyData → Option Rv := runD 4 f_r_total
def f__law_pick : En → Option (Fl × En) := dSeq (dRet (dOp gIx (dPv 1) (dAg (dCallL 1 g__law_draw 0 (dEsC (dFn gLen (dPsC (dPv 1) (dPs0))) (dEs0))))))
      (dNx)
def g__law_pick : List PyData → List PyData → Option (Rv × List PyData) := runL 2 f__law_pick
def f__law_plus : En → Option (Fl × En) := dSeq (dRet (dCall 2 g__law_frac (dEsC (dOp gAdd (dAg (dOp gMul (dAg (dOp gIx (dPv 0) (dAg (dC (.int 0))))) (dAg (dOp gIx (dPv 1) (dAg (dC (.int 1))))))) (dAg (dOp gMul (dAg (dOp gIx (dPv 1) (dAg (dC (.int 0))))) (dAg (dOp gIx (dPv 0) (dAg (dC (.int 1)))))))) (dEsC (dOp gMul (dAg (dOp gIx (dPv 0) (dAg (dC (.int 1))))) (dAg (dOp gIx (dPv 1) (dAg (dC (.int 1)))))) (dEs0)))))
      (dNx)
def g__law_plus : List PyData → Option Rv := runD 2 f__law_plus
def f__law_minus : En → Option (Fl × En) := dSeq (dRet (dCall 2 g__law_frac (dEsC (dOp gSub (dAg (dOp gMul (dAg (dOp gIx (dPv 0) (dAg (dC (.int 0))))) (dAg (dOp gIx (dPv 1) (dAg (dC (.int 1))))))) (dAg (dOp gMul (dAg (dOp gIx (dPv 1) (dAg (dC (.int 0))))) (dAg (dOp gIx (dPv 0) (dAg (dC (.int 1)))))))) (dEsC (dOp gMul (dAg (dOp gIx (dPv 0) (dAg (dC (.int 1))))) (dAg (dOp gIx (dPv 1) (dAg (dC (.int 1)))))) (dEs0)))))
      (dNx)
def g__law_minus : List PyData → Option Rv := runD 2 f__law_minus
def f__law_times : En → Option (Fl × En) := dSeq (dRet (dCall 2 g__law_frac (dEsC (dOp gMul (dAg (dOp gIx (dPv 0) (dAg (dC (.int 0))))) (dAg (dOp gIx (dPv 1) (dAg (dC (.int 0)))))) (dEsC (dOp gMul (dAg (dOp gIx (dPv 0) (dAg (dC (.int 1))))) (dAg (dOp gIx (dPv 1) (dAg (dC (.int 1)))))) (dEs0)))))
      (dNx)
def g__law_times : List PyData → Option Rv := runD 2 f__law_times
def f__law_by : En → Option (Fl × En) := dSeq (dRet (dCall 2 g__law_frac (dEsC (dOp gMul (dAg (dOp gIx (dPv 0) (dAg (dC (.int 0))))) (dAg (dOp gIx (dPv 1) (dAg (dC (.int 1)))))) (dEsC (dOp gMul (dAg (dOp gIx (dPv 0) (dAg (dC (.int 1))))) (dAg (dOp gIx (dPv 1) (dAg (dC (.int 0)))))) (dEs0)))))
      (dNx)
def g__law_by : List PyData → Option Rv := runD 2 f__law_by
def f_is_number : En → Option (Fl × En) := dSeq (dRet (dOr (dCall 1 g_is_integer (dEsC (dVar 0) (dEs0))) (dCall 1 g_is_ratio (dEsC (dVar 0) (dEs0)))))
      (dNx)
def g_is_number : List PyData → Option Rv := runD 1 f_is_number
def c_pairs_of_0 : En → Option (List PyData × En) := dLc [1] (diSeq (dVar 0)) (dgN 1) (dYes) (dCall 1 g_pair_of (dEsC (dVar 1) (dEs0)))
def f_pairs_of : En → Option (Fl × En) := dSeq (dRetN (c_pairs_of_0))
      (dNx)
def g_pairs_of : List PyData → Option Rv := runD 2 f_pairs_of
def c_r_dot_0 : En → Option (List PyData × En) := dLc [2, 3] (diZip (dEsC (dVar 0) (dEsC (dVar 1) (dEs0)))) (dgT 2 (dgsC (dgN 2) (dgsC (dgN 3) (dgs0)))) (dYes) (dCall 2 g_r_times (dEsC (dVar 2) (dEsC (dVar 3) (dEs0))))
def f_r_dot : En → Option (Fl × En) := dSeq (dRet (dCall 1 g_r_total (dEsC (dFz (c_r_dot_0)) (dEs0))))
      (dNx)
def g_r_dot : List PyData → Option Rv := runD 4 f_r_dot
def b_numbers_by_0 : En → Option (Fl × En) := dSeq (dSet 4 (dCall 2 g_r_times (dEsC (dVar 4) (dEsC (dCall 2 g_r_minus (dEsC (dVar 3) (dEsC (dVar 5) (dEs0)))) (dEs0)))))
      (dNx)
def b_numbers_by_1 : En → Option (Fl × En) := dSeq (dSet 4 (dC (.tuple [(.int 1), (.int 1)])))
      (dSeq (dFor (diSeq (dOp gAdd (dAg (dSl gSl (dPv 0) (dPart none) (dPart (some (dVar 2))))) (dAg (dSl gSl (dPv 0) (dPart (some (dOp gAdd (dPv 2) (dAg (dC (.int 1)))))) (dPart none))))) (dgN 5) (b_numbers_by_0))
      (dSeq (dDrop (dMeth gApp 1 (dEsC (dCall 2 g_r_over (dEsC (dC (.tuple [(.int 1), (.int 1)])) (dEsC (dVar 4) (dEs0)))) (dEs0))))
      (dNx)))
def f_numbers_by : En → Option (Fl × En) := dSeq (dSetN 1 (dLst (dEs0)))
      (dSeq (dFor (diEnum (dEsC (dVar 0) (dEs0))) (dgT 2 (dgsC (dgN 2) (dgsC (dgN 3) (dgs0)))) (b_numbers_by_1))
      (dSeq (dRetV 1)
      (dNx)))
def g_numbers_by : List PyData → Option Rv := runD 6 f_numbers_by
def b_longer_by_0 : En → Option (Fl × En) := dSeq (dAsg (dCall 2 g_r_minus (dEsC (dOp gIx (dPv 2) (dPv 3)) (dEsC (dCall 2 g_r_times (dEsC (dVar 4) (dEsC (dVar 1) (dEs0)))) (dEs0)))) (dgS 2 (dVar 3)))
      (dNx)
def f_longer_by : En → Option (Fl × En) := dSeq (dSetN 2 (dOpN gAddN (dAg (dFz (dLst (dEsC (dC (.tuple [(.int 0), (.int 1)])) (dEs0))))) (dPv 0)))
      (dSeq (dFor (diEnum (dEsC (dVar 0) (dEs0))) (dgT 2 (dgsC (dgN 3) (dgsC (dgN 4) (dgs0)))) (b_longer_by_0))
      (dSeq (dRetV 2)
      (dNx)))
def g_longer_by : List PyData → Option Rv := runD 5 f_longer_by
def b_power_by_0 : En → Option (Fl × En) := dSeq (dSet 2 (dCall 2 g_r_plus (dEsC (dCall 2 g_r_times (dEsC (dVar 2) (dEsC (dVar 1) (dEs0)))) (dEsC (dVar 3) (dEs0)))))
      (dNx)
def f_power_by : En → Option (Fl × En) := dSeq (dSet 2 (dC (.tuple [(.int 0), (.int 1)])))
      (dSeq (dFor (diSeq (dUn gRev (dPv 0))) (dgN 3) (b_power_by_0))
      (dSeq (dRet (dVar 2))
      (dNx)))
def g_power_by : List PyData → Option Rv := runD 4 f_power_by
def b__law_dot_0 : En → Option (Fl × En) := dSeq (dSet 2 (dCall 2 g__law_plus (dEsC (dVar 2) (dEsC (dCall 2 g__law_times (dEsC (dVar 3) (dEsC (dVar 4) (dEs0)))) (dEs0)))))
      (dNx)
def f__law_dot : En → Option (Fl × En) := dSeq (dSet 2 (dTup (dEsC (dC (.int 0)) (dEsC (dC (.int 1)) (dEs0)))))
      (dSeq (dFor (diZip (dEsC (dVar 0) (dEsC (dVar 1) (dEs0)))) (dgT 2 (dgsC (dgN 3) (dgsC (dgN 4) (dgs0)))) (b__law_dot_0))
      (dSeq (dRet (dVar 2))
      (dNx)))
def g__law_dot : List PyData → Option Rv := runD 5 f__law_dot
def f__law_small : En → Option (Fl × En) := dSeq (dRet (dCallL 1 g__law_pick 0 (dEsC (dFz (dLst (dEsC (dOp gSub (dAg (dCallL 1 g__law_draw 0 (dEsC (dC (.int 9)) (dEs0)))) (dAg (dC (.int 4)))) (dEsC (dOp gSub (dAg (dCallL 1 g__law_draw 0 (dEsC (dC (.int 9)) (dEs0)))) (dAg (dC (.int 4)))) (dEsC (dOp gSub (dAg (dCallL 1 g__law_draw 0 (dEsC (dC (.int 60)) (dEs0)))) (dAg (dC (.int 30)))) (dEsC (dCall 2 g__law_frac (dEsC (dOp gSub (dAg (dCallL 1 g__law_draw 0 (dEsC (dC (.int 13)) (dEs0)))) (dAg (dC (.int 6)))) (dEsC (dC (.int 2)) (dEs0)))) (dEsC (dCall 2 g__law_frac (dEsC (dOp gSub (dAg (dCallL 1 g__law_draw 0 (dEsC (dC (.int 13)) (dEs0)))) (dAg (dC (.int 6)))) (dEsC (dC (.int 3)) (dEs0)))) (dEs0)))))))) (dEs0))))
      (dNx)
def g__law_small : List PyData → List PyData → Option (Rv × List PyData) := runL 1 f__law_small
def b__law_total_0 : En → Option (Fl × En) := dSeq (dSet 1 (dCall 2 g__law_plus (dEsC (dVar 1) (dEsC (dVar 2) (dEs0)))))
      (dNx)
def f__law_total : En → Option (Fl × En) := dSeq (dSet 1 (dTup (dEsC (dC (.int 0)) (dEsC (dC (.int 1)) (dEs0)))))
      (dSeq (dFor (diSeq (dVar 0)) (dgN 2) (b__law_total_0))
      (dSeq (dRet (dVar 1))
      (dNx)))
def g__law_total : List PyData → Option Rv := runD 3 f__law_total
def c__law_difference_0 : En → Option (List PyData × En) := dLc [6, 7] (diSeq (dVar 0)) (dgT 2 (dgsC (dgN 6) (dgsC (dgN 7) (dgs0)))) (dYes) (dVar 7)
def b__law_difference_0 : En → Option (Fl × En) := dSeq (dDrop (dMeth gApp 4 (dEsC (dCall 2 g__law_by (dEsC (dCall 2 g__law_minus (dEsC (dOp gIx (dPv 1) (dAg (dOp gAdd (dPv 5) (dAg (dC (.int 1)))))) (dEsC (dOp gIx (dPv 1) (dPv 5)) (dEs0)))) (dEsC (dCall 2 g__law_minus (dEsC (dOp gIx (dAg (dOp gIx (dPv 0) (dAg (dOp gAdd (dPv 5) (dPv 3))))) (dAg (dC (.int 0)))) (dEsC (dOp gIx (dAg (dOp gIx (dPv 0) (dPv 5))) (dAg (dC (.int 0)))) (dEs0)))) (dEs0)))) (dEs0))))
      (dNx)
def b__law_difference_1 : En → Option (Fl × En) := dSeq (dSetN 4 (dLst (dEs0)))
      (dSeq (dFor (diRange (dEsC (dOp gSub (dPv 2) (dPv 3)) (dEs0))) (dgN 5) (b__law_difference_0))
      (dSeq (dSet 1 (dVar 4))
      (dNx)))
def f__law_difference : En → Option (Fl × En) := dSeq (dPar2 1 2 (dRsE (dFz (c__law_difference_0)) (dRsE (dFn gLen (dPsC (dPv 0) (dPs0))) (dRs0))))
      (dSeq (dFor (diRange (dEsC (dC (.int 1)) (dEsC (dVar 2) (dEs0)))) (dgN 3) (b__law_difference_1))
      (dSeq (dRet (dOp gIx (dPv 1) (dAg (dC (.int 0)))))
      (dNx)))
def g__law_difference : List PyData → Option Rv := runD 8 f__law_difference
def b__law_numbers_0 : En → Option (Fl × En) := dSeq (dSet 4 (dIf (dB (dOp gEq (dPv 5) (dPv 2))) (dVar 4) (dCall 2 g__law_by (dEsC (dVar 4) (dEsC (dCall 2 g__law_minus (dEsC (dVar 3) (dEsC (dVar 6) (dEs0)))) (dEs0))))))
      (dNx)
def b__law_numbers_1 : En → Option (Fl × En) := dSeq (dSet 4 (dTup (dEsC (dC (.int 1)) (dEsC (dC (.int 1)) (dEs0)))))
      (dSeq (dFor (diEnum (dEsC (dVar 0) (dEs0))) (dgT 2 (dgsC (dgN 5) (dgsC (dgN 6) (dgs0)))) (b__law_numbers_0))
      (dSeq (dDrop (dMeth gApp 1 (dEsC (dVar 4) (dEs0))))
      (dNx)))
def f__law_numbers : En → Option (Fl × En) := dSeq (dSetN 1 (dLst (dEs0)))
      (dSeq (dFor (diEnum (dEsC (dVar 0) (dEs0))) (dgT 2 (dgsC (dgN 2) (dgsC (dgN 3) (dgs0)))) (b__law_numbers_1))
      (dSeq (dRetV 1)
      (dNx)))
def g__law_numbers : List PyData → Option Rv := runD 7 f__law_numbers
def b__law_power_0 : En → Option (Fl × En) := dSeq (dSet 2 (dCall 2 g__law_times (dEsC (dVar 2) (dEsC (dVar 0) (dEs0)))))
      (dNx)
def f__law_power : En → Option (Fl × En) := dSeq (dSet 2 (dTup (dEsC (dC (.int 1)) (dEsC (dC (.int 1)) (dEs0)))))
      (dSeq (dFor (diRange (dEsC (dVar 1) (dEs0))) (dgN 3) (b__law_power_0))
      (dSeq (dRet (dVar 2))
      (dNx)))
def g__law_power : List PyData → Option Rv := runD 4 f__law_power
def c_line_is_right_0 : En → Option (List PyData × En) := dLc [2] (diSeq (dVar 0)) (dgN 2) (dYes) (dCall 1 g_is_number (dEsC (dVar 2) (dEs0)))
def f_line_is_right : En → Option (Fl × En) := dSeq (dRet (dAnd (dCall 1 g_is_list (dEsC (dVar 0) (dEs0))) (dAnd (dOp gLe (dAg (dFn gLen (dPsC (dPv 0) (dPs0)))) (dPv 1)) (dFn gAll (dPsC (dAg (dFz (c_line_is_right_0))) (dPs0))))))
      (dNx)
def g_line_is_right : List PyData → Option Rv := runD 3 f_line_is_right
def c_difference_by_0 : En → Option (List PyData × En) := dLc [1] (diSeq (dVar 0)) (dgN 1) (dYes) (dOp gIx (dPv 1) (dAg (dC (.int 0))))
def c_difference_by_1 : En → Option (List PyData × En) := dLc [1] (diSeq (dVar 0)) (dgN 1) (dYes) (dOp gIx (dPv 1) (dAg (dC (.int 1))))
def f_difference_by : En → Option (Fl × En) := dSeq (dRet (dCall 2 g_r_dot (dEsC (dCall 1 g_numbers_by (dEsC (dFz (c_difference_by_0)) (dEs0))) (dEsC (dFz (c_difference_by_1)) (dEs0)))))
      (dNx)
def g_difference_by : List PyData → Option Rv := runD 2 f_difference_by
def c_point_is_right_0 : En → Option (List PyData × En) := dLc [1] (diSeq (dVar 0)) (dgN 1) (dYes) (dCall 1 g_is_number (dEsC (dVar 1) (dEs0)))
def f_point_is_right : En → Option (Fl × En) := dSeq (dRet (dAnd (dIsi [.tuple] (dPv 0)) (dAnd (dOp gEq (dAg (dFn gLen (dPsC (dPv 0) (dPs0)))) (dAg (dC (.int 2)))) (dFn gAll (dPsC (dAg (dFz (c_point_is_right_0))) (dPs0))))))
      (dNx)
def g_point_is_right : List PyData → Option Rv := runD 2 f_point_is_right
def c_do_numbers_rise_0 : En → Option (List PyData × En) := dLc [2, 3] (diZip (dEsC (dVar 1) (dEsC (dSl gSl (dPv 1) (dPart (some (dC (.int 1)))) (dPart none)) (dEs0)))) (dgT 2 (dgsC (dgN 2) (dgsC (dgN 3) (dgs0)))) (dYes) (dCall 2 g_r_less (dEsC (dVar 2) (dEsC (dVar 3) (dEs0))))
def f_do_numbers_rise : En → Option (Fl × En) := dSeq (dSet 1 (dCall 1 g_pairs_of (dEsC (dVar 0) (dEs0))))
      (dSeq (dRet (dFn gAll (dPsC (dAg (dFz (c_do_numbers_rise_0))) (dPs0))))
      (dNx))
def g_do_numbers_rise : List PyData → Option Rv := runD 4 f_do_numbers_rise
def f_spot_of : En → Option (Fl × En) := dSeq (dIfS (dNotT (dTr (dAg (dCall 1 g_is_number (dEsC (dVar 0) (dEs0)))))) (dSeq (dNever)
      (dNx)) (dNx))
      (dSeq (dRet (dCall 1 g_pair_of (dEsC (dVar 0) (dEs0))))
      (dNx))
def g_spot_of : List PyData → Option Rv := runD 1 f_spot_of
def f__law_squares : En → Option (Fl × En) := dSeq (dRet (dCall 2 g__law_dot (dEsC (dVar 0) (dEsC (dVar 0) (dEs0)))))
      (dNx)
def g__law_squares : List PyData → Option Rv := runD 1 f__law_squares
def b__law_places_0 : En → Option (Fl × En) := dSeq (dDrop (dMeth gApp 2 (dEsC (dIf (dAndT (dB (dOp gEq (dAg (dOp gIx (dPv 3) (dAg (dC (.int 1))))) (dAg (dC (.int 1))))) (dB (dOp gGt (dAg (dCallL 1 g__law_draw 0 (dEsC (dC (.int 4)) (dEs0)))) (dAg (dC (.int 0)))))) (dOp gIx (dPv 3) (dAg (dC (.int 0)))) (dVar 3)) (dEs0))))
      (dSeq (dSet 3 (dCall 2 g__law_plus (dEsC (dVar 3) (dEsC (dCallL 1 g__law_pick 0 (dEsC (dFz (dLst (dEsC (dTup (dEsC (dC (.int 1)) (dEsC (dC (.int 1)) (dEs0)))) (dEsC (dTup (dEsC (dC (.int 1)) (dEsC (dC (.int 1)) (dEs0)))) (dEsC (dTup (dEsC (dC (.int 2)) (dEsC (dC (.int 1)) (dEs0)))) (dEsC (dTup (dEsC (dC (.int 3)) (dEsC (dC (.int 1)) (dEs0)))) (dEsC (dTup (dEsC (dC (.int 1)) (dEsC (dC (.int 2)) (dEs0)))) (dEsC (dTup (dEsC (dC (.int 4)) (dEsC (dC (.int 3)) (dEs0)))) (dEs0))))))))) (dEs0))) (dEs0)))))
      (dNx))
def f__law_places : En → Option (Fl × En) := dSeq (dPar2 2 3 (dRsN (dLst (dEs0)) (dRsE (dCall 1 g__law_pair (dEsC (dCallL 0 g__law_small 0 (dEs0)) (dEs0))) (dRs0))))
      (dSeq (dFor (diRange (dEsC (dVar 1) (dEs0))) (dgN 4) (b__law_places_0))
      (dSeq (dRetV 2)
      (dNx)))
def g__law_places : List PyData → List PyData → Option (Rv × List PyData) := runL 5 f__law_places
def c__law_worth_0 : En → Option (List PyData × En) := dLc [2, 3] (diEnum (dEsC (dVar 0) (dEs0))) (dgT 2 (dgsC (dgN 2) (dgsC (dgN 3) (dgs0)))) (dYes) (dCall 2 g__law_times (dEsC (dVar 3) (dEsC (dCall 2 g__law_power (dEsC (dVar 1) (dEsC (dVar 2) (dEs0)))) (dEs0))))
def f__law_worth : En → Option (Fl × En) := dSeq (dRet (dCall 1 g__law_total (dEsC (dFz (c__law_worth_0)) (dEs0))))
      (dNx)
def g__law_worth : List PyData → Option Rv := runD 4 f__law_worth
def c_law_by_0 : En → Option (List PyData × En) := dLc [5, 6] (diZip (dEsC (dOp gAdd (dPv 1) (dAg (dFz (dLst (dEsC (dC (.tuple [(.int 0), (.int 1)])) (dEs0)))))) (dEsC (dVar 2) (dEs0)))) (dgT 2 (dgsC (dgN 5) (dgsC (dgN 6) (dgs0)))) (dYes) (dCall 2 g_r_plus (dEsC (dVar 5) (dEsC (dCall 2 g_r_times (dEsC (dVar 4) (dEsC (dVar 6) (dEs0)))) (dEs0))))
def b_law_by_0 : En → Option (Fl × En) := dSeq (dSet 4 (dCall 1 g_difference_by (dEsC (dSl gSl (dPv 0) (dPart none) (dPart (some (dVar 3)))) (dEs0))))
      (dSeq (dSet 1 (dFz (c_law_by_0)))
      (dSeq (dSet 2 (dCall 2 g_longer_by (dEsC (dVar 2) (dEsC (dOp gIx (dAg (dOp gIx (dPv 0) (dAg (dOp gSub (dPv 3) (dAg (dC (.int 1))))))) (dAg (dC (.int 0)))) (dEs0)))))
      (dNx)))
def f_law_by : En → Option (Fl × En) := dSeq (dPar2 1 2 (dRsE (dFz (dLst (dEs0))) (dRsE (dFz (dLst (dEsC (dC (.tuple [(.int 1), (.int 1)])) (dEs0)))) (dRs0))))
      (dSeq (dFor (diRange (dEsC (dC (.int 1)) (dEsC (dOp gAdd (dAg (dFn gLen (dPsC (dPv 0) (dPs0)))) (dAg (dC (.int 1)))) (dEs0)))) (dgN 3) (b_law_by_0))
      (dSeq (dRet (dVar 1))
      (dNx)))
def g_law_by : List PyData → Option Rv := runD 7 f_law_by
def c_points_are_right_0 : En → Option (List PyData × En) := dLc [1] (diSeq (dVar 0)) (dgN 1) (dYes) (dCall 1 g_point_is_right (dEsC (dVar 1) (dEs0)))
def c_points_are_right_1 : En → Option (List PyData × En) := dLc [2] (diSeq (dVar 0)) (dgN 2) (dYes) (dOp gIx (dPv 2) (dAg (dC (.int 0))))
def f_points_are_right : En → Option (Fl × En) := dSeq (dIfS (dOrT (dNotT (dTr (dAg (dCall 1 g_is_list (dEsC (dVar 0) (dEs0)))))) (dOrT (dNotT (dB (dChain gLe gLe (dAg (dC (.int 1))) (dAg (dFn gLen (dPsC (dPv 0) (dPs0)))) (dAg (dC (.int 12)))))) (dNotT (dTr (dAg (dFn gAll (dPsC (dAg (dFz (c_points_are_right_0))) (dPs0)))))))) (dSeq (dRet (dC (.bool false)))
      (dNx)) (dNx))
      (dSeq (dRet (dCall 1 g_do_numbers_rise (dEsC (dFz (c_points_are_right_1)) (dEs0))))
      (dNx))
def g_points_are_right : List PyData → Option Rv := runD 3 f_points_are_right
def f_difference_numbers : En → Option (Fl × En) := dSeq (dIfS (dOrT (dNotT (dTr (dAg (dCall 2 g_line_is_right (dEsC (dVar 0) (dEsC (dC (.int 12)) (dEs0))))))) (dOrT (dB (dOp gEq (dAg (dFn gLen (dPsC (dPv 0) (dPs0)))) (dAg (dC (.int 0))))) (dNotT (dTr (dAg (dCall 1 g_do_numbers_rise (dEsC (dVar 0) (dEs0)))))))) (dSeq (dNever)
      (dNx)) (dNx))
      (dSeq (dRetN (dCallN 1 g_numbers_by (dEsC (dCall 1 g_pairs_of (dEsC (dVar 0) (dEs0))) (dEs0))))
      (dNx))
def g_difference_numbers : List PyData → Option Rv := runD 1 f_difference_numbers
def f_power_at : En → Option (Fl × En) := dSeq (dIfS (dOrT (dNotT (dTr (dAg (dCall 2 g_line_is_right (dEsC (dVar 0) (dEsC (dC (.int 12)) (dEs0))))))) (dB (dOp gEq (dAg (dFn gLen (dPsC (dPv 0) (dPs0)))) (dAg (dC (.int 0)))))) (dSeq (dNever)
      (dNx)) (dNx))
      (dSeq (dRet (dCall 2 g_power_by (dEsC (dCall 1 g_pairs_of (dEsC (dVar 0) (dEs0))) (dEsC (dCall 1 g_spot_of (dEsC (dVar 1) (dEs0))) (dEs0)))))
      (dNx))
def g_power_at : List PyData → Option Rv := runD 2 f_power_at
def c_points_of_0 : En → Option (List PyData × En) := dLc [1, 2] (diSeq (dVar 0)) (dgT 2 (dgsC (dgN 1) (dgsC (dgN 2) (dgs0)))) (dYes) (dTup (dEsC (dCall 1 g_pair_of (dEsC (dVar 1) (dEs0))) (dEsC (dCall 1 g_pair_of (dEsC (dVar 2) (dEs0))) (dEs0))))
def f_points_of : En → Option (Fl × En) := dSeq (dIfS (dNotT (dTr (dAg (dCall 1 g_points_are_right (dEsC (dVar 0) (dEs0)))))) (dSeq (dNever)
      (dNx)) (dNx))
      (dSeq (dRetN (c_points_of_0))
      (dNx))
def g_points_of : List PyData → Option Rv := runD 3 f_points_of
def f_difference : En → Option (Fl × En) := dSeq (dRet (dCall 1 g_difference_by (dEsC (dCall 1 g_points_of (dEsC (dVar 0) (dEs0))) (dEs0))))
      (dNx)
def g_difference : List PyData → Option Rv := runD 1 f_difference
def f_power_law : En → Option (Fl × En) := dSeq (dRet (dCall 1 g_law_by (dEsC (dCall 1 g_points_of (dEsC (dVar 0) (dEs0))) (dEs0))))
      (dNx)
def g_power_law : List PyData → Option Rv := runD 1 f_power_law
def c__law_right_0 : En → Option (List PyData × En) := dLc [18] (diSeq (dVar 1)) (dgN 18) (dYes) (dCall 1 g__law_pair (dEsC (dVar 18) (dEs0)))
def c__law_right_1 : En → Option (List PyData × En) := dLc [19] (diRange (dEsC (dVar 3) (dEs0))) (dgN 19) (dYes) (dCall 1 g__law_pair (dEsC (dCallL 0 g__law_small 0 (dEs0)) (dEs0)))
def c__law_right_2 : En → Option (List PyData × En) := dLc [19] (diRange (dEsC (dVar 3) (dEs0))) (dgN 19) (dYes) (dCall 1 g__law_pair (dEsC (dCallL 0 g__law_small 0 (dEs0)) (dEs0)))
def c__law_right_3 : En → Option (List PyData × En) := dLc [20] (diSeq (dVar 6)) (dgN 20) (dYes) (dOp gGt (dAg (dOp gIx (dPv 20) (dAg (dC (.int 0))))) (dAg (dC (.int 0))))
def c__law_right_4 : En → Option (List PyData × En) := dLc [19] (diRange (dEsC (dVar 3) (dEs0))) (dgN 19) (dYes) (dOp gEq (dAg (dOp gMod (dAg (dFn gInt (dPsC (dAg (dOp gSub (dPv 3) (dPv 19))) (dPs0)))) (dAg (dC (.int 2))))) (dAg (dC (.int 1))))
def c__law_right_5 : En → Option (List PyData × En) := dLc [16] (diSeq (dVar 2)) (dgN 16) (dYes) (dCall 2 g__law_power (dEsC (dVar 16) (dEsC (dVar 10) (dEs0))))
def b__law_right_0 : En → Option (Fl × En) := dSeq (dIfS (dB (dOp gNe (dAg (dCall 2 g__law_dot (dEsC (dVar 6) (dEsC (dFz (c__law_right_5)) (dEs0))))) (dAg (dTup (dEsC (dFn gInt (dPsC (dAg (dOp gEq (dPv 10) (dAg (dOp gSub (dPv 3) (dAg (dC (.int 1))))))) (dPs0))) (dEsC (dC (.int 1)) (dEs0))))))) (dSeq (dRet (dC (.bool false)))
      (dNx)) (dNx))
      (dNx)
def c__law_right_6 : En → Option (List PyData × En) := dLc [16] (diSeq (dVar 2)) (dgN 16) (dYes) (dCall 2 g__law_worth (dEsC (dVar 4) (dEsC (dVar 16) (dEs0))))
def c__law_right_7 : En → Option (List PyData × En) := dLc [18, 17] (diZip (dEsC (dVar 1) (dEsC (dVar 11) (dEs0)))) (dgT 2 (dgsC (dgN 18) (dgsC (dgN 17) (dgs0)))) (dYes) (dTup (dEsC (dVar 18) (dEsC (dIf (dB (dOp gEq (dAg (dOp gIx (dPv 17) (dAg (dC (.int 1))))) (dAg (dC (.int 1))))) (dOp gIx (dPv 17) (dAg (dC (.int 0)))) (dVar 17)) (dEs0))))
def b__law_right_1 : En → Option (Fl × En) := dSeq (dIfS (dOrT (dB (dOp gNe (dAg (dCall 2 g__law_worth (dEsC (dVar 15) (dEsC (dVar 16) (dEs0))))) (dPv 17))) (dB (dOp gNe (dAg (dFn gRepr (dPsC (dAg (dFz (dLst (dEsC (dCall 2 g_power_at (dEsC (dVar 15) (dEsC (dVar 16) (dEs0)))) (dEsC (dCallK0 2 2 [1, 0] g_power_at (dEsC (dVar 16) (dEsC (dFn gTuple (dPsC (dPv 15) (dPs0))) (dEs0)))) (dEs0)))))) (dPs0)))) (dAg (dFn gRepr (dPsC (dAg (dFz (dLst (dEsC (dVar 17) (dEsC (dVar 17) (dEs0)))))) (dPs0))))))) (dSeq (dRet (dC (.bool false)))
      (dNx)) (dNx))
      (dNx)
def b__law_right_2 : En → Option (Fl × En) := dSeq (dSet 12 (dFz (c__law_right_7)))
      (dSeq (dPar2 13 14 (dRsE (dFn gRepr (dPsC (dPv 12) (dPs0))) (dRsE (dCall 1 g__law_difference (dEsC (dFz (dLstZ (dEsC (dVar 2) (dEsC (dVar 11) (dEs0))))) (dEs0))) (dRs0))))
      (dSeq (dIfS (dOrT (dB (dOp gNe (dPv 14) (dAg (dCall 2 g__law_dot (dEsC (dVar 6) (dEsC (dVar 11) (dEs0))))))) (dB (dOp gNe (dAg (dFn gRepr (dPsC (dAg (dFz (dLst (dEsC (dCall 1 g_difference (dEsC (dVar 12) (dEs0))) (dEsC (dCallK0 1 1 [0] g_difference (dEsC (dFn gTuple (dPsC (dPv 12) (dPs0))) (dEs0))) (dEs0)))))) (dPs0)))) (dAg (dFn gRepr (dPsC (dAg (dFz (dLst (dEsC (dVar 14) (dEsC (dVar 14) (dEs0)))))) (dPs0))))))) (dSeq (dRet (dC (.bool false)))
      (dNx)) (dNx))
      (dSeq (dSet 15 (dCall 1 g_power_law (dEsC (dFz (dFnN gListN (dPsC (dPv 12) (dPs0)))) (dEs0))))
      (dSeq (dIfS (dOrT (dB (dOp gNe (dAg (dFn gLen (dPsC (dPv 15) (dPs0)))) (dPv 3))) (dOrT (dB (dOp gNe (dAg (dFn gRepr (dPsC (dAg (dCallK0 1 1 [0] g_power_law (dEsC (dFz (dFnN gListN (dPsC (dPv 12) (dPs0)))) (dEs0)))) (dPs0)))) (dAg (dFn gRepr (dPsC (dPv 15) (dPs0)))))) (dB (dOp gNe (dAg (dOp gIx (dPv 15) (dAg (dUn gNeg (dAg (dC (.int 1))))))) (dPv 14))))) (dSeq (dRet (dC (.bool false)))
      (dNx)) (dNx))
      (dSeq (dFor (diZip (dEsC (dVar 2) (dEsC (dVar 11) (dEs0)))) (dgT 2 (dgsC (dgN 16) (dgsC (dgN 17) (dgs0)))) (b__law_right_1))
      (dSeq (dIfS (dB (dOp gNe (dAg (dFn gRepr (dPsC (dPv 12) (dPs0)))) (dPv 13))) (dSeq (dRet (dC (.bool false)))
      (dNx)) (dNx))
      (dNx)))))))
def c__law_right_8 : En → Option (List PyData × En) := dLc [21] (diSeq (dVar 4)) (dgN 21) (dYes) (dIf (dB (dOp gEq (dAg (dOp gIx (dPv 21) (dAg (dC (.int 1))))) (dAg (dC (.int 1))))) (dOp gIx (dPv 21) (dAg (dC (.int 0)))) (dVar 21))
def f__law_right : En → Option (Fl × En) := dSeq (dAsg (dTup (dEsC (dFz (c__law_right_0)) (dEsC (dFn gLen (dPsC (dPv 1) (dPs0))) (dEs0)))) (dgT 2 (dgsC (dgN 2) (dgsC (dgN 3) (dgs0)))))
      (dSeq (dSet 4 (dFz (c__law_right_1)))
      (dSeq (dSet 5 (dFz (c__law_right_2)))
      (dSeq (dPar2 6 7 (dRsE (dCall 1 g__law_numbers (dEsC (dVar 2) (dEs0))) (dRsE (dFn gRepr (dPsC (dPv 1) (dPs0))) (dRs0))))
      (dSeq (dSetN 8 (dCallN 1 g_difference_numbers (dEsC (dVar 1) (dEs0))))
      (dSeq (dIfS (dLendT (dB (dOp gNe (dAg (dFn gRepr (dPsC (dAg (dFz (dLst (dEsC (dVar 8) (dEsC (dCallK0 1 1 [0] g_difference_numbers (dEsC (dFn gTuple (dPsC (dPv 1) (dPs0))) (dEs0))) (dEs0)))))) (dPs0)))) (dAg (dFn gRepr (dPsC (dAg (dFz (dLst (dEsC (dVar 6) (dEsC (dVar 6) (dEs0)))))) (dPs0))))))) (dSeq (dRet (dC (.bool false)))
      (dNx)) (dNx))
      (dSeq (dDrop (dMeth gApp 8 (dEsC (dC .none) (dEs0))))
      (dSeq (dSet 9 (dFz (c__law_right_3)))
      (dSeq (dIfS (dB (dOp gNe (dPv 9) (dAg (dFz (c__law_right_4))))) (dSeq (dRet (dC (.bool false)))
      (dNx)) (dNx))
      (dSeq (dFor (diRange (dEsC (dVar 3) (dEs0))) (dgN 10) (b__law_right_0))
      (dSeq (dFor (diSeq (dTup (dEsC (dVar 5) (dEsC (dFz (c__law_right_6)) (dEs0))))) (dgN 11) (b__law_right_2))
      (dSeq (dIfS (dB (dOp gNe (dAg (dFn gRepr (dPsC (dPv 15) (dPs0)))) (dAg (dFn gRepr (dPsC (dPv 4) (dPs0)))))) (dSeq (dRet (dC (.bool false)))
      (dNx)) (dNx))
      (dSeq (dSet 16 (dCallL 0 g__law_small 0 (dEs0)))
      (dSeq (dRet (dAnd (dOp gEq (dAg (dFn gRepr (dPsC (dAg (dCall 2 g_power_at (dEsC (dFz (c__law_right_8)) (dEsC (dVar 16) (dEs0))))) (dPs0)))) (dAg (dFn gRepr (dPsC (dAg (dCall 2 g__law_worth (dEsC (dVar 4) (dEsC (dCall 1 g__law_pair (dEsC (dVar 16) (dEs0))) (dEs0))))) (dPs0))))) (dOp gEq (dAg (dFn gRepr (dPsC (dPv 1) (dPs0)))) (dPv 7))))
      (dNx))))))))))))))
def g__law_right : List PyData → List PyData → Option (Rv × List PyData) := runL 22 f__law_right
def c_law_0 : En → Option (List PyData × En) := dLc [2] (diRange (dEsC (dC (.int 4)) (dEs0))) (dgN 2) (dYes) (dCallL 1 g__law_right 1 (dEsC (dCallL 1 g__law_places 1 (dEsC (dOp gAdd (dAg (dC (.int 1))) (dAg (dCallL 1 g__law_draw 1 (dEsC (dC (.int 6)) (dEs0))))) (dEs0))) (dEs0)))
def f_law : En → Option (Fl × En) := dSeq (dSetN 1 (dCallN 2 g__law_pot (dEsC (dVar 0) (dEsC (dC (.int 0)) (dEs0)))))
      (dSeq (dRet (dFn gAll (dPsC (dAg (dFz (c_law_0))) (dPs0))))
      (dNx))
def g_law : List PyData → Option Rv := runD 3 f_law
end Q13
namespace Q13
open PySem PySem.Spec PyProof.Rows L2 Jd RZ
/-- what the text has left -/
structure Txt (K : PySem.W.Frag) (mg : Str → Option Value) : Prop where
  n_abs : mg "abs" = none
  n_all : mg "all" = none
  n_bool : mg "bool" = none
  n_enumerate : mg "enumerate" = none
  n_int : mg "int" = none
  n_isinstance : mg "isinstance" = none
  n_len : mg "len" = none
  n_list : mg "list" = none
  n_max : mg "max" = none
  n_range : mg "range" = none
  n_repr : mg "repr" = none
  n_sum : mg "sum" = none
  n_tuple : mg "tuple" = none
  n_zip : mg "zip" = none
  c_MOST_POINTS : ConD K mg "MOST_POINTS" (.int 12)
  c_NOUGHT : ConD K mg "NOUGHT" (.tuple [(.int 0), (.int 1)])
  c_ONE : ConD K mg "ONE" (.tuple [(.int 1), (.int 1)])
  b_gcd : mg "gcd" = some (.builtin "math.gcd")
  a_is_list : At K mg "is_list" "is_list" (defArgs s_is_list) (defBody s_is_list) (defScope s_is_list)
  a_is_integer : At K mg "is_integer" "is_integer" (defArgs s_is_integer) (defBody s_is_integer) (defScope s_is_integer)
  a_is_ratio : At K mg "is_ratio" "is_ratio" (defArgs s_is_ratio) (defBody s_is_ratio) (defScope s_is_ratio)
  a_is_number : At K mg "is_number" "is_number" (defArgs s_is_number) (defBody s_is_number) (defScope s_is_number)
  a_made : At K mg "made" "made" (defArgs s_made) (defBody s_made) (defScope s_made)
  a_pair_of : At K mg "pair_of" "pair_of" (defArgs s_pair_of) (defBody s_pair_of) (defScope s_pair_of)
  a_pairs_of : At K mg "pairs_of" "pairs_of" (defArgs s_pairs_of) (defBody s_pairs_of) (defScope s_pairs_of)
  a_common : At K mg "common" "common" (defArgs s_common) (defBody s_common) (defScope s_common)
  a_r_plus : At K mg "r_plus" "r_plus" (defArgs s_r_plus) (defBody s_r_plus) (defScope s_r_plus)
  a_r_minus : At K mg "r_minus" "r_minus" (defArgs s_r_minus) (defBody s_r_minus) (defScope s_r_minus)
  a_r_times : At K mg "r_times" "r_times" (defArgs s_r_times) (defBody s_r_times) (defScope s_r_times)
  a_r_over : At K mg "r_over" "r_over" (defArgs s_r_over) (defBody s_r_over) (defScope s_r_over)
  a_r_less : At K mg "r_less" "r_less" (defArgs s_r_less) (defBody s_r_less) (defScope s_r_less)
  a_r_total : At K mg "r_total" "r_total" (defArgs s_r_total) (defBody s_r_total) (defScope s_r_total)
  a_r_dot : At K mg "r_dot" "r_dot" (defArgs s_r_dot) (defBody s_r_dot) (defScope s_r_dot)
  a_line_is_right : At K mg "line_is_right" "line_is_right" (defArgs s_line_is_right) (defBody s_line_is_right) (defScope s_line_is_right)
  a_numbers_by : At K mg "numbers_by" "numbers_by" (defArgs s_numbers_by) (defBody s_numbers_by) (defScope s_numbers_by)
  a_difference_by : At K mg "difference_by" "difference_by" (defArgs s_difference_by) (defBody s_difference_by) (defScope s_difference_by)
  a_longer_by : At K mg "longer_by" "longer_by" (defArgs s_longer_by) (defBody s_longer_by) (defScope s_longer_by)
  a_law_by : At K mg "law_by" "law_by" (defArgs s_law_by) (defBody s_law_by) (defScope s_law_by)
  a_power_by : At K mg "power_by" "power_by" (defArgs s_power_by) (defBody s_power_by) (defScope s_power_by)
  a_point_is_right : At K mg "point_is_right" "point_is_right" (defArgs s_point_is_right) (defBody s_point_is_right) (defScope s_point_is_right)
  a_do_numbers_rise : At K mg "do_numbers_rise" "do_numbers_rise" (defArgs s_do_numbers_rise) (defBody s_do_numbers_rise) (defScope s_do_numbers_rise)
  a_points_are_right : At K mg "points_are_right" "points_are_right" (defArgs s_points_are_right) (defBody s_points_are_right) (defScope s_points_are_right)
  a_points_of : At K mg "points_of" "points_of" (defArgs s_points_of) (defBody s_points_of) (defScope s_points_of)
  a_spot_of : At K mg "spot_of" "spot_of" (defArgs s_spot_of) (defBody s_spot_of) (defScope s_spot_of)
  a_difference : At K mg "difference" "difference" (defArgs s_difference) (defBody s_difference) (defScope s_difference)
  a_difference_numbers : At K mg "difference_numbers" "difference_numbers" (defArgs s_difference_numbers) (defBody s_difference_numbers) (defScope s_difference_numbers)
  a_power_law : At K mg "power_law" "power_law" (defArgs s_power_law) (defBody s_power_law) (defScope s_power_law)
  a_power_at : At K mg "power_at" "power_at" (defArgs s_power_at) (defBody s_power_at) (defScope s_power_at)
  a__law_pot : At K mg "_law_pot" "_law_pot" (defArgs s__law_pot) (defBody s__law_pot) (defScope s__law_pot)
  a__law_draw : At K mg "_law_draw" "_law_draw" (defArgs s__law_draw) (defBody s__law_draw) (defScope s__law_draw)
  a__law_pick : At K mg "_law_pick" "_law_pick" (defArgs s__law_pick) (defBody s__law_pick) (defScope s__law_pick)
  a__law_frac : At K mg "_law_frac" "_law_frac" (defArgs s__law_frac) (defBody s__law_frac) (defScope s__law_frac)
  a__law_plus : At K mg "_law_plus" "_law_plus" (defArgs s__law_plus) (defBody s__law_plus) (defScope s__law_plus)
  a__law_minus : At K mg "_law_minus" "_law_minus" (defArgs s__law_minus) (defBody s__law_minus) (defScope s__law_minus)
  a__law_times : At K mg "_law_times" "_law_times" (defArgs s__law_times) (defBody s__law_times) (defScope s__law_times)
  a__law_by : At K mg "_law_by" "_law_by" (defArgs s__law_by) (defBody s__law_by) (defScope s__law_by)
  a__law_below : At K mg "_law_below" "_law_below" (defArgs s__law_below) (defBody s__law_below) (defScope s__law_below)
  a__law_dot : At K mg "_law_dot" "_law_dot" (defArgs s__law_dot) (defBody s__law_dot) (defScope s__law_dot)
  a__law_squares : At K mg "_law_squares" "_law_squares" (defArgs s__law_squares) (defBody s__law_squares) (defScope s__law_squares)
  a__law_pair : At K mg "_law_pair" "_law_pair" (defArgs s__law_pair) (defBody s__law_pair) (defScope s__law_pair)
  a__law_small : At K mg "_law_small" "_law_small" (defArgs s__law_small) (defBody s__law_small) (defScope s__law_small)
  a__law_places : At K mg "_law_places" "_law_places" (defArgs s__law_places) (defBody s__law_places) (defScope s__law_places)
  a__law_total : At K mg "_law_total" "_law_total" (defArgs s__law_total) (defBody s__law_total) (defScope s__law_total)
  a__law_difference : At K mg "_law_difference" "_law_difference" (defArgs s__law_difference) (defBody s__law_difference) (defScope s__law_difference)
  a__law_numbers : At K mg "_law_numbers" "_law_numbers" (defArgs s__law_numbers) (defBody s__law_numbers) (defScope s__law_numbers)
  a__law_power : At K mg "_law_power" "_law_power" (defArgs s__law_power) (defBody s__law_power) (defScope s__law_power)
  a__law_worth : At K mg "_law_worth" "_law_worth" (defArgs s__law_worth) (defBody s__law_worth) (defScope s__law_worth)
  a__law_right : At K mg "_law_right" "_law_right" (defArgs s__law_right) (defBody s__law_right) (defScope s__law_right)
  a_law : At K mg "law" "law" (defArgs s_law) (defBody s_law) (defScope s_law)
section
variable {P : Program} {w : World} {K : PySem.W.Frag} {mg : Str → Option Value} {base : Heap}
theorem sc_is_list : FnScope ["value"] ["value"] (defScope s_is_list) := ⟨rfl, rfl, rfl, by decide +kernel, rfl, by decide +kernel, by decide +kernel⟩
theorem ok_is_list (T : Txt K mg) : Ok P w K mg base 1 "is_list" "is_list" (defArgs s_is_list) (defBody s_is_list) (defScope s_is_list) ["value"] (spD K 1 g_is_list) :=
  mkD (N := ["value"]) T.a_is_list sc_is_list 1 rfl (fun _ _ _ _ _ _ us hl => match us, hl with | [_], _ => rfl) (fun f cdv A outer s H hg0 hr0 => by
    have hg : (cxOf CX0 P w K mg base ["value"] "is_list" (defScope s_is_list) f cdv A outer s H E0).nox.A.guards = some [] := hg0
    have hr : Room 0 (cxOf CX0 P w K mg base ["value"] "is_list" (defScope s_is_list) f cdv A outer s H E0).nox.A := hr0
    have hu := hr.units
    have hu1 := room65 hr
    have nd := sc_is_list.nd
    exact jss_cons (js_ret (je_isi2 .list .tuple (pe_callB call_isiT (by rfl) T.n_isinstance (by decide +kernel) (pa_cons (jp_var 0 (pv 0)) (pa_cons (pe_tup (pa_cons (pe_ty (by rfl) T.n_list (by decide +kernel)) (pa_cons (pe_ty (by rfl) T.n_tuple (by decide +kernel)) pa_nil))) pa_nil)))))
      (jss_nil))
theorem sc_is_integer : FnScope ["value"] ["value"] (defScope s_is_integer) := ⟨rfl, rfl, rfl, by decide +kernel, rfl, by decide +kernel, by decide +kernel⟩
theorem ok_is_integer (T : Txt K mg) : Ok P w K mg base 1 "is_integer" "is_integer" (defArgs s_is_integer) (defBody s_is_integer) (defScope s_is_integer) ["value"] (spD K 1 g_is_integer) :=
  mkD (N := ["value"]) T.a_is_integer sc_is_integer 1 rfl (fun _ _ _ _ _ _ us hl => match us, hl with | [_], _ => rfl) (fun f cdv A outer s H hg0 hr0 => by
    have hg : (cxOf CX0 P w K mg base ["value"] "is_integer" (defScope s_is_integer) f cdv A outer s H E0).nox.A.guards = some [] := hg0
    have hr : Room 0 (cxOf CX0 P w K mg base ["value"] "is_integer" (defScope s_is_integer) f cdv A outer s H E0).nox.A := hr0
    have hu := hr.units
    have hu1 := room65 hr
    have nd := sc_is_integer.nd
    exact jss_cons (js_ret (je_and (je_isi1 .int (pe_callB call_isi (by rfl) T.n_isinstance (by decide +kernel) (pa_cons (jp_var 0 (pv 0)) (pa_cons (pe_ty (by rfl) T.n_int (by decide +kernel)) pa_nil)))) (je_one (je_not (je_isi1 .bool (pe_callB call_isi (by rfl) T.n_isinstance (by decide +kernel) (pa_cons (jp_var 0 (pv 0)) (pa_cons (pe_ty (by rfl) T.n_bool (by decide +kernel)) pa_nil))))))))
      (jss_nil))
theorem sc_made : FnScope ["top", "bottom", "part"] ["top", "bottom"] (defScope s_made) := ⟨rfl, rfl, rfl, by decide +kernel, rfl, by decide +kernel, by decide +kernel⟩
theorem ok_made (T : Txt K mg) : Ok P w K mg base 1 "made" "made" (defArgs s_made) (defBody s_made) (defScope s_made) ["top", "bottom"] (spD K 2 g_made) :=
  mkD (N := ["top", "bottom", "part"]) T.a_made sc_made 2 rfl (fun _ _ _ _ _ _ us hl => match us, hl with | [_, _], _ => rfl) (fun f cdv A outer s H hg0 hr0 => by
    have hg : (cxOf CX0 P w K mg base ["top", "bottom", "part"] "made" (defScope s_made) f cdv A outer s H E0).nox.A.guards = some [] := hg0
    have hr : Room 0 (cxOf CX0 P w K mg base ["top", "bottom", "part"] "made" (defScope s_made) f cdv A outer s H E0).nox.A := hr0
    have hu := hr.units
    have hu1 := room65 hr
    have nd := sc_made.nd
    exact jss_cons (js_set (ps_set (i := 2) nd rfl (by first | exact Or.inl rfl | exact Or.inr rfl) (je_op op_mulAll pr_mul (jp_of (je_fn pr_gcd (pe_callBfun cr_gcd (by rfl) T.b_gcd (jps_cons (jp_var 0 (pv 0)) (jps_cons (jp_var 1 (pv 1)) (jps_nil)))))) (jp_of (je_if (jt_cmp op_gt pr_gt (jp_var 1 (pv 1)) (jp_of (je_int))) (je_int) (je_un un_neg pr_neg (jp_of (je_int))))))))
      (jss_cons (js_ret (je_tup (jes_cons (je_op op_divX pr_div (jp_var 0 (pv 0)) (jp_var 2 (pv 2))) (jes_cons (je_op op_divX pr_div (jp_var 1 (pv 1)) (jp_var 2 (pv 2))) (jes_nil)))))
      (jss_nil)))
theorem sc_common : FnScope ["values", "found", "top", "bottom"] ["values"] (defScope s_common) := ⟨rfl, rfl, rfl, by decide +kernel, rfl, by decide +kernel, by decide +kernel⟩
theorem ok_common (T : Txt K mg) : Ok P w K mg base 1 "common" "common" (defArgs s_common) (defBody s_common) (defScope s_common) ["values"] (spD K 1 g_common) :=
  mkD (N := ["values", "found", "top", "bottom"]) T.a_common sc_common 1 rfl (fun _ _ _ _ _ _ us hl => match us, hl with | [_], _ => rfl) (fun f cdv A outer s H hg0 hr0 => by
    have hg : (cxOf CX0 P w K mg base ["values", "found", "top", "bottom"] "common" (defScope s_common) f cdv A outer s H E0).nox.A.guards = some [] := hg0
    have hr : Room 0 (cxOf CX0 P w K mg base ["values", "found", "top", "bottom"] "common" (defScope s_common) f cdv A outer s H E0).nox.A := hr0
    have hu := hr.units
    have hu1 := room65 hr
    have nd := sc_common.nd
    exact jss_cons (js_set (ps_set (i := 1) nd rfl (by first | exact Or.inl rfl | exact Or.inr rfl) (je_int)))
      (jss_cons (js_for PassesOwn.never rfl (ji_seq (je_var 0 (pv 0))) (vs := [2, 3]) (jg_tup rfl (jgs_cons (jg_name (pg_name (i := 2) nd rfl (by first | exact Or.inl rfl | exact Or.inr rfl))) (jgs_cons (jg_name (pg_name (i := 3) nd rfl (by first | exact Or.inl rfl | exact Or.inr rfl))) (jgs_nil)))) (jss_cons (js_set (ps_set (i := 1) nd rfl (by first | exact Or.inl rfl | exact Or.inr rfl) (je_op op_mulAll pr_mul (jp_of (je_op op_divX pr_div (jp_var 1 (pv 1)) (jp_of (je_fn pr_gcd (pe_callBfun cr_gcd (by rfl) T.b_gcd (jps_cons (jp_var 1 (pv 1)) (jps_cons (jp_var 3 (pv 3)) (jps_nil)))))))) (jp_var 3 (pv 3)))))
      (jss_nil)))
      (jss_cons (js_ret (je_var 1 (pv 1)))
      (jss_nil))))
theorem sc_r_less : FnScope ["one", "other"] ["one", "other"] (defScope s_r_less) := ⟨rfl, rfl, rfl, by decide +kernel, rfl, by decide +kernel, by decide +kernel⟩
theorem ok_r_less (T : Txt K mg) : Ok P w K mg base 1 "r_less" "r_less" (defArgs s_r_less) (defBody s_r_less) (defScope s_r_less) ["one", "other"] (spD K 2 g_r_less) :=
  mkD (N := ["one", "other"]) T.a_r_less sc_r_less 2 rfl (fun _ _ _ _ _ _ us hl => match us, hl with | [_, _], _ => rfl) (fun f cdv A outer s H hg0 hr0 => by
    have hg : (cxOf CX0 P w K mg base ["one", "other"] "r_less" (defScope s_r_less) f cdv A outer s H E0).nox.A.guards = some [] := hg0
    have hr : Room 0 (cxOf CX0 P w K mg base ["one", "other"] "r_less" (defScope s_r_less) f cdv A outer s H E0).nox.A := hr0
    have hu := hr.units
    have hu1 := room65 hr
    have nd := sc_r_less.nd
    exact jss_cons (js_ret (je_cmp op_lt pr_lt (jp_of (je_op op_mulAll pr_mul (jp_of (je_ix ix_seq pr_ix (jp_var 0 (pv 0)) (jp_of (je_int)))) (jp_of (je_ix ix_seq pr_ix (jp_var 1 (pv 1)) (jp_of (je_int)))))) (jp_of (je_op op_mulAll pr_mul (jp_of (je_ix ix_seq pr_ix (jp_var 1 (pv 1)) (jp_of (je_int)))) (jp_of (je_ix ix_seq pr_ix (jp_var 0 (pv 0)) (jp_of (je_int))))))))
      (jss_nil))
theorem sc__law_pot : FnScope ["script", "k", "cell", "mixed"] ["script", "k"] (defScope s__law_pot) := ⟨rfl, rfl, rfl, by decide +kernel, rfl, by decide +kernel, by decide +kernel⟩
theorem ok__law_pot (T : Txt K mg) : Ok P w K mg base 1 "_law_pot" "_law_pot" (defArgs s__law_pot) (defBody s__law_pot) (defScope s__law_pot) ["script", "k"] (spD K 2 g__law_pot) :=
  mkD (N := ["script", "k", "cell", "mixed"]) T.a__law_pot sc__law_pot 2 rfl (fun _ _ _ _ _ _ us hl => match us, hl with | [_, _], _ => rfl) (fun f cdv A outer s H hg0 hr0 => by
    have hg : (cxOf CX0 P w K mg base ["script", "k", "cell", "mixed"] "_law_pot" (defScope s__law_pot) f cdv A outer s H E0).nox.A.guards = some [] := hg0
    have hr : Room 0 (cxOf CX0 P w K mg base ["script", "k", "cell", "mixed"] "_law_pot" (defScope s__law_pot) f cdv A outer s H E0).nox.A := hr0
    have hu := hr.units
    have hu1 := room65 hr
    have nd := sc__law_pot.nd
    exact jss_cons (js_set (ps_set (i := 2) nd rfl (by first | exact Or.inl rfl | exact Or.inr rfl) (je_if (jt_cmp op_lt pr_lt (jp_var 1 (pv 1)) (jp_of (je_fn pr_len (pe_callB cr_lenAll (by rfl) T.n_len PySem.boot_len (jps_cons (jp_var 0 (pv 0)) (jps_nil)))))) (je_fn pr_abs (pe_callB call_abs (by rfl) T.n_abs (by decide +kernel) (jps_cons (jp_of (je_ix ix_seq pr_ix (jp_var 0 (pv 0)) (jp_var 1 (pv 1)))) (jps_nil)))) (je_op op_addAll pr_add (jp_of (je_op op_mulAll pr_mul (jp_of (je_int)) (jp_var 1 (pv 1)))) (jp_of (je_int))))))
      (jss_cons (js_set (ps_set (i := 3) nd rfl (by first | exact Or.inl rfl | exact Or.inr rfl) (je_op op_addAll pr_add (jp_of (je_op op_modN pr_mod (jp_of (je_fn pr_intF (pe_callTy call_int1 (by rfl) T.n_int (by decide +kernel) (jps_cons (jp_of (je_op op_addAll pr_add (jp_of (je_op op_addAll pr_add (jp_of (je_op op_mulAll pr_mul (jp_of (je_op op_modN pr_mod (jp_of (je_fn pr_intF (pe_callTy call_int1 (by rfl) T.n_int (by decide +kernel) (jps_cons (jp_var 2 (pv 2)) (jps_nil))))) (jp_of (je_int)))) (jp_of (je_int)))) (jp_of (je_op op_mulAll pr_mul (jp_of (je_int)) (jp_var 1 (pv 1)))))) (jp_of (je_int)))) (jps_nil))))) (jp_of (je_int)))) (jp_of (je_int)))))
      (jss_cons (js_retN (jn_lst (jes_cons (je_fn pr_max (pe_callB (cr_maxAll rfl) (by rfl) T.n_max (by decide +kernel) (jps_cons (jp_of (je_int)) (jps_cons (jp_of (je_op op_sub pr_sub (jp_var 2 (pv 2)) (jp_of (je_op op_pow pr_pow (jp_of (je_int)) (jp_of (je_int)))))) (jps_nil))))) (jes_cons (je_var 3 (pv 3)) (jes_nil)))))
      (jss_nil))))
theorem sc__law_draw : FnScope ["pot", "many", "digit"] ["pot", "many"] (defScope s__law_draw) := ⟨rfl, rfl, rfl, by decide +kernel, rfl, by decide +kernel, by decide +kernel⟩
theorem ok__law_draw (T : Txt K mg) : Ok P w K mg base 1 "_law_draw" "_law_draw" (defArgs s__law_draw) (defBody s__law_draw) (defScope s__law_draw) ["pot", "many"] (spL K 1 g__law_draw) :=
  mkL (N := ["pot", "many", "digit"]) T.a__law_draw sc__law_draw 1 rfl (fun _ _ _ _ _ _ us hl => match us, hl with | [_, _], _ => rfl) (fun f cdv A outer s H hg0 hr0 => by
    have hg : (cxOf CX0 P w K mg base ["pot", "many", "digit"] "_law_draw" (defScope s__law_draw) f cdv A outer s H E0).nox.A.guards = some [] := hg0
    have hr : Room 0 (cxOf CX0 P w K mg base ["pot", "many", "digit"] "_law_draw" (defScope s__law_draw) f cdv A outer s H E0).nox.A := hr0
    have hu := hr.units
    have hu1 := room65 hr
    have nd := sc__law_draw.nd
    exact jss_cons (js_if (jt_cmp op_gt pr_gt (jp_of (je_ix ix_seq pr_ix (jp_var 0 (pv 0)) (jp_of (je_int)))) (jp_of (je_int))) (jss_cons (js_set (ps_set (i := 2) nd rfl (by first | exact Or.inl rfl | exact Or.inr rfl) (je_op op_modN pr_mod (jp_of (je_fn pr_intF (pe_callTy call_int1 (by rfl) T.n_int (by decide +kernel) (jps_cons (jp_of (je_ix ix_seq pr_ix (jp_var 0 (pv 0)) (jp_of (je_int)))) (jps_nil))))) (jp_var 1 (pv 1)))))
      (jss_cons (js_asg (vs := [0]) (ps_asg (je_op op_divX pr_div (jp_of (je_fn pr_intF (pe_callTy call_int1 (by rfl) T.n_int (by decide +kernel) (jps_cons (jp_of (je_ix ix_seq pr_ix (jp_var 0 (pv 0)) (jp_of (je_int)))) (jps_nil))))) (jp_var 1 (pv 1))) (jg_sub 0 (pv 0) (je_int))))
      (jss_cons (js_ret (je_var 2 (pv 2)))
      (jss_nil)))) (jss_nil))
      (jss_cons (js_asg (vs := [0]) (ps_asg (je_op op_modN pr_mod (jp_of (je_fn pr_intF (pe_callTy call_int1 (by rfl) T.n_int (by decide +kernel) (jps_cons (jp_of (je_op op_addAll pr_add (jp_of (je_op op_mulAll pr_mul (jp_of (je_ix ix_seq pr_ix (jp_var 0 (pv 0)) (jp_of (je_int)))) (jp_of (je_int)))) (jp_of (je_int)))) (jps_nil))))) (jp_of (je_int))) (jg_sub 0 (pv 0) (je_int))))
      (jss_cons (js_ret (je_op op_modN pr_mod (jp_of (je_fn pr_intF (pe_callTy call_int1 (by rfl) T.n_int (by decide +kernel) (jps_cons (jp_of (je_op op_divX pr_div (jp_of (je_op op_modN pr_mod (jp_of (je_fn pr_intF (pe_callTy call_int1 (by rfl) T.n_int (by decide +kernel) (jps_cons (jp_of (je_op op_mulAll pr_mul (jp_of (je_ix ix_seq pr_ix (jp_var 0 (pv 0)) (jp_of (je_int)))) (jp_of (je_ix ix_seq pr_ix (jp_var 0 (pv 0)) (jp_of (je_int)))))) (jps_nil))))) (jp_of (je_int)))) (jp_of (je_int)))) (jps_nil))))) (jp_var 1 (pv 1))))
      (jss_nil))))
theorem sc__law_frac : FnScope ["top", "bottom", "one", "other", "flip"] ["top", "bottom"] (defScope s__law_frac) := ⟨rfl, rfl, rfl, by decide +kernel, rfl, by decide +kernel, by decide +kernel⟩
theorem ok__law_frac (T : Txt K mg) : Ok P w K mg base 1 "_law_frac" "_law_frac" (defArgs s__law_frac) (defBody s__law_frac) (defScope s__law_frac) ["top", "bottom"] (spD K 2 g__law_frac) :=
  mkD (N := ["top", "bottom", "one", "other", "flip"]) T.a__law_frac sc__law_frac 2 rfl (fun _ _ _ _ _ _ us hl => match us, hl with | [_, _], _ => rfl) (fun f cdv A outer s H hg0 hr0 => by
    have hg : (cxOf CX0 P w K mg base ["top", "bottom", "one", "other", "flip"] "_law_frac" (defScope s__law_frac) f cdv A outer s H E0).nox.A.guards = some [] := hg0
    have hr : Room 0 (cxOf CX0 P w K mg base ["top", "bottom", "one", "other", "flip"] "_law_frac" (defScope s__law_frac) f cdv A outer s H E0).nox.A := hr0
    have hu := hr.units
    have hu1 := room65 hr
    have nd := sc__law_frac.nd
    exact jss_cons (js_par2 (ps_par (i := 2) (j := 3) rfl nd rfl rfl (by decide) rfl rfl (jrs_E (je_fn pr_abs (pe_callB call_abs (by rfl) T.n_abs (by decide +kernel) (jps_cons (jp_var 0 (pv 0)) (jps_nil)))) (jrs_E (je_fn pr_abs (pe_callB call_abs (by rfl) T.n_abs (by decide +kernel) (jps_cons (jp_var 1 (pv 1)) (jps_nil)))) (jrs_nil))) (by rfl)))
      (jss_cons (js_while WF PassesOwn.never (jt_cmp op_gt pr_gt (jp_var 3 (pv 3)) (jp_of (je_int))) (jss_cons (js_par2 (ps_par (i := 2) (j := 3) rfl nd rfl rfl (by decide) rfl rfl (jrs_E (je_var 3 (pv 3)) (jrs_E (je_op op_modN pr_mod (jp_of (je_fn pr_intF (pe_callTy call_int1 (by rfl) T.n_int (by decide +kernel) (jps_cons (jp_var 2 (pv 2)) (jps_nil))))) (jp_var 3 (pv 3))) (jrs_nil))) (by rfl)))
      (jss_nil)))
      (jss_cons (js_set (ps_set (i := 4) nd rfl (by first | exact Or.inl rfl | exact Or.inr rfl) (je_if (jt_cmp op_lt pr_lt (jp_var 1 (pv 1)) (jp_of (je_int))) (je_un un_neg pr_neg (jp_of (je_int))) (je_int))))
      (jss_cons (js_ret (je_tup (jes_cons (je_op op_divX pr_div (jp_of (je_op op_mulAll pr_mul (jp_var 4 (pv 4)) (jp_var 0 (pv 0)))) (jp_var 2 (pv 2))) (jes_cons (je_op op_divX pr_div (jp_of (je_op op_mulAll pr_mul (jp_var 4 (pv 4)) (jp_var 1 (pv 1)))) (jp_var 2 (pv 2))) (jes_nil)))))
      (jss_nil)))))
theorem sc__law_below : FnScope ["one", "other"] ["one", "other"] (defScope s__law_below) := ⟨rfl, rfl, rfl, by decide +kernel, rfl, by decide +kernel, by decide +kernel⟩
theorem ok__law_below (T : Txt K mg) : Ok P w K mg base 1 "_law_below" "_law_below" (defArgs s__law_below) (defBody s__law_below) (defScope s__law_below) ["one", "other"] (spD K 2 g__law_below) :=
  mkD (N := ["one", "other"]) T.a__law_below sc__law_below 2 rfl (fun _ _ _ _ _ _ us hl => match us, hl with | [_, _], _ => rfl) (fun f cdv A outer s H hg0 hr0 => by
    have hg : (cxOf CX0 P w K mg base ["one", "other"] "_law_below" (defScope s__law_below) f cdv A outer s H E0).nox.A.guards = some [] := hg0
    have hr : Room 0 (cxOf CX0 P w K mg base ["one", "other"] "_law_below" (defScope s__law_below) f cdv A outer s H E0).nox.A := hr0
    have hu := hr.units
    have hu1 := room65 hr
    have nd := sc__law_below.nd
    exact jss_cons (js_ret (je_cmp op_lt pr_lt (jp_of (je_op op_mulAll pr_mul (jp_of (je_ix ix_seq pr_ix (jp_var 0 (pv 0)) (jp_of (je_int)))) (jp_of (je_ix ix_seq pr_ix (jp_var 1 (pv 1)) (jp_of (je_int)))))) (jp_of (je_op op_mulAll pr_mul (jp_of (je_ix ix_seq pr_ix (jp_var 1 (pv 1)) (jp_of (je_int)))) (jp_of (je_ix ix_seq pr_ix (jp_var 0 (pv 0)) (jp_of (je_int))))))))
      (jss_nil))
theorem sc__law_pair : FnScope ["number"] ["number"] (defScope s__law_pair) := ⟨rfl, rfl, rfl, by decide +kernel, rfl, by decide +kernel, by decide +kernel⟩
theorem ok__law_pair (T : Txt K mg) : Ok P w K mg base 1 "_law_pair" "_law_pair" (defArgs s__law_pair) (defBody s__law_pair) (defScope s__law_pair) ["number"] (spD K 1 g__law_pair) :=
  mkD (N := ["number"]) T.a__law_pair sc__law_pair 1 rfl (fun _ _ _ _ _ _ us hl => match us, hl with | [_], _ => rfl) (fun f cdv A outer s H hg0 hr0 => by
    have hg : (cxOf CX0 P w K mg base ["number"] "_law_pair" (defScope s__law_pair) f cdv A outer s H E0).nox.A.guards = some [] := hg0
    have hr : Room 0 (cxOf CX0 P w K mg base ["number"] "_law_pair" (defScope s__law_pair) f cdv A outer s H E0).nox.A := hr0
    have hu := hr.units
    have hu1 := room65 hr
    have nd := sc__law_pair.nd
    exact jss_cons (js_ret (je_if (jt_truth (jp_of (je_isi1 .int (pe_callB call_isi (by rfl) T.n_isinstance (by decide +kernel) (pa_cons (jp_var 0 (pv 0)) (pa_cons (pe_ty (by rfl) T.n_int (by decide +kernel)) pa_nil)))))) (je_tup (jes_cons (je_var 0 (pv 0)) (jes_cons (je_int) (jes_nil)))) (je_var 0 (pv 0))))
      (jss_nil))
theorem sc_is_ratio : FnScope ["value", "one"] ["value"] (defScope s_is_ratio) := ⟨rfl, rfl, rfl, by decide +kernel, rfl, by decide +kernel, by decide +kernel⟩
theorem ok_is_ratio (T : Txt K mg) : Ok P w K mg base 2 "is_ratio" "is_ratio" (defArgs s_is_ratio) (defBody s_is_ratio) (defScope s_is_ratio) ["value"] (spD K 1 g_is_ratio) :=
  mkD (N := ["value", "one"]) T.a_is_ratio sc_is_ratio 1 rfl (fun _ _ _ _ _ _ us hl => match us, hl with | [_], _ => rfl) (fun f cdv A outer s H hg0 hr0 => by
    have hg : (cxOf CX0 P w K mg base ["value", "one"] "is_ratio" (defScope s_is_ratio) f cdv A outer s H E0).nox.A.guards = some [] := hg0
    have hr : Room 1 (cxOf CX0 P w K mg base ["value", "one"] "is_ratio" (defScope s_is_ratio) f cdv A outer s H E0).nox.A := hr0
    have hu := hr.units
    have hu1 := room65 hr
    have nd := sc_is_ratio.nd
    exact jss_cons (js_if (jt_w (jw_or (jt_not (jt_truth (jp_of (je_isi1 .tuple (pe_callB call_isi (by rfl) T.n_isinstance (by decide +kernel) (pa_cons (jp_var 0 (pv 0)) (pa_cons (pe_ty (by rfl) T.n_tuple (by decide +kernel)) pa_nil))))))) (jw_or (jt_cmp (op_neA hu) pr_ne (jp_of (je_fn pr_len (pe_callB cr_lenAll (by rfl) T.n_len PySem.boot_len (jps_cons (jp_var 0 (pv 0)) (jps_nil))))) (jp_of (je_int))) (jw_or1 (jt_not (jt_truth (jp_of (je_fn pr_all (pe_callB (cr_all rfl) (by rfl) T.n_all (by decide +kernel) (jps_cons (jp_of (je_fz (jn_lc (own := [("one", 1)]) rfl nd (ji_seq (je_var 0 (pv 0))) (blkOk_by (N := ["value", "one"]) (sc := defScope s_is_ratio) (own := [("one", 1)]) (by decide +kernel)) (fun _ _ _ _ _ => jg_name (pg_name (i := 1) nd rfl (by first | exact Or.inl rfl | exact Or.inr rfl))) (fun _ _ _ _ _ => jt_yes) (fun _ _ _ _ _ => je_ok (ok_is_integer T) hg hr (by rfl) (jes_cons (je_var 1 (pv 1)) (jes_nil)))))) (jps_nil))))))))))) (jss_cons (js_ret (je_bl))
      (jss_nil)) (jss_nil))
      (jss_cons (js_ret (je_and (je_cmp op_ge pr_ge (jp_of (je_ix ix_seq pr_ix (jp_var 0 (pv 0)) (jp_of (je_int)))) (jp_of (je_int))) (je_one (je_cmp (op_eqA hu) pr_eq (jp_of (je_fn pr_gcd (pe_callBfun cr_gcd (by rfl) T.b_gcd (jps_cons (jp_of (je_ix ix_seq pr_ix (jp_var 0 (pv 0)) (jp_of (je_int)))) (jps_cons (jp_of (je_ix ix_seq pr_ix (jp_var 0 (pv 0)) (jp_of (je_int)))) (jps_nil)))))) (jp_of (je_int))))))
      (jss_nil)))
theorem sc_pair_of : FnScope ["number"] ["number"] (defScope s_pair_of) := ⟨rfl, rfl, rfl, by decide +kernel, rfl, by decide +kernel, by decide +kernel⟩
theorem ok_pair_of (T : Txt K mg) : Ok P w K mg base 2 "pair_of" "pair_of" (defArgs s_pair_of) (defBody s_pair_of) (defScope s_pair_of) ["number"] (spD K 1 g_pair_of) :=
  mkD (N := ["number"]) T.a_pair_of sc_pair_of 1 rfl (fun _ _ _ _ _ _ us hl => match us, hl with | [_], _ => rfl) (fun f cdv A outer s H hg0 hr0 => by
    have hg : (cxOf CX0 P w K mg base ["number"] "pair_of" (defScope s_pair_of) f cdv A outer s H E0).nox.A.guards = some [] := hg0
    have hr : Room 1 (cxOf CX0 P w K mg base ["number"] "pair_of" (defScope s_pair_of) f cdv A outer s H E0).nox.A := hr0
    have hu := hr.units
    have hu1 := room65 hr
    have nd := sc_pair_of.nd
    exact jss_cons (js_ret (je_if (jt_truth (jp_of (je_ok (ok_is_integer T) hg hr (by rfl) (jes_cons (je_var 0 (pv 0)) (jes_nil))))) (je_tup (jes_cons (je_var 0 (pv 0)) (jes_cons (je_int) (jes_nil)))) (je_var 0 (pv 0))))
      (jss_nil))
theorem sc_r_plus : FnScope ["one", "other"] ["one", "other"] (defScope s_r_plus) := ⟨rfl, rfl, rfl, by decide +kernel, rfl, by decide +kernel, by decide +kernel⟩
theorem ok_r_plus (T : Txt K mg) : Ok P w K mg base 2 "r_plus" "r_plus" (defArgs s_r_plus) (defBody s_r_plus) (defScope s_r_plus) ["one", "other"] (spD K 2 g_r_plus) :=
  mkD (N := ["one", "other"]) T.a_r_plus sc_r_plus 2 rfl (fun _ _ _ _ _ _ us hl => match us, hl with | [_, _], _ => rfl) (fun f cdv A outer s H hg0 hr0 => by
    have hg : (cxOf CX0 P w K mg base ["one", "other"] "r_plus" (defScope s_r_plus) f cdv A outer s H E0).nox.A.guards = some [] := hg0
    have hr : Room 1 (cxOf CX0 P w K mg base ["one", "other"] "r_plus" (defScope s_r_plus) f cdv A outer s H E0).nox.A := hr0
    have hu := hr.units
    have hu1 := room65 hr
    have nd := sc_r_plus.nd
    exact jss_cons (js_ret (je_ok (ok_made T) hg hr (by rfl) (jes_cons (je_op op_addAll pr_add (jp_of (je_op op_mulAll pr_mul (jp_of (je_ix ix_seq pr_ix (jp_var 0 (pv 0)) (jp_of (je_int)))) (jp_of (je_ix ix_seq pr_ix (jp_var 1 (pv 1)) (jp_of (je_int)))))) (jp_of (je_op op_mulAll pr_mul (jp_of (je_ix ix_seq pr_ix (jp_var 1 (pv 1)) (jp_of (je_int)))) (jp_of (je_ix ix_seq pr_ix (jp_var 0 (pv 0)) (jp_of (je_int))))))) (jes_cons (je_op op_mulAll pr_mul (jp_of (je_ix ix_seq pr_ix (jp_var 0 (pv 0)) (jp_of (je_int)))) (jp_of (je_ix ix_seq pr_ix (jp_var 1 (pv 1)) (jp_of (je_int))))) (jes_nil)))))
      (jss_nil))
theorem sc_r_minus : FnScope ["one", "other"] ["one", "other"] (defScope s_r_minus) := ⟨rfl, rfl, rfl, by decide +kernel, rfl, by decide +kernel, by decide +kernel⟩
theorem ok_r_minus (T : Txt K mg) : Ok P w K mg base 2 "r_minus" "r_minus" (defArgs s_r_minus) (defBody s_r_minus) (defScope s_r_minus) ["one", "other"] (spD K 2 g_r_minus) :=
  mkD (N := ["one", "other"]) T.a_r_minus sc_r_minus 2 rfl (fun _ _ _ _ _ _ us hl => match us, hl with | [_, _], _ => rfl) (fun f cdv A outer s H hg0 hr0 => by
    have hg : (cxOf CX0 P w K mg base ["one", "other"] "r_minus" (defScope s_r_minus) f cdv A outer s H E0).nox.A.guards = some [] := hg0
    have hr : Room 1 (cxOf CX0 P w K mg base ["one", "other"] "r_minus" (defScope s_r_minus) f cdv A outer s H E0).nox.A := hr0
    have hu := hr.units
    have hu1 := room65 hr
    have nd := sc_r_minus.nd
    exact jss_cons (js_ret (je_ok (ok_made T) hg hr (by rfl) (jes_cons (je_op op_sub pr_sub (jp_of (je_op op_mulAll pr_mul (jp_of (je_ix ix_seq pr_ix (jp_var 0 (pv 0)) (jp_of (je_int)))) (jp_of (je_ix ix_seq pr_ix (jp_var 1 (pv 1)) (jp_of (je_int)))))) (jp_of (je_op op_mulAll pr_mul (jp_of (je_ix ix_seq pr_ix (jp_var 1 (pv 1)) (jp_of (je_int)))) (jp_of (je_ix ix_seq pr_ix (jp_var 0 (pv 0)) (jp_of (je_int))))))) (jes_cons (je_op op_mulAll pr_mul (jp_of (je_ix ix_seq pr_ix (jp_var 0 (pv 0)) (jp_of (je_int)))) (jp_of (je_ix ix_seq pr_ix (jp_var 1 (pv 1)) (jp_of (je_int))))) (jes_nil)))))
      (jss_nil))
theorem sc_r_times : FnScope ["one", "other"] ["one", "other"] (defScope s_r_times) := ⟨rfl, rfl, rfl, by decide +kernel, rfl, by decide +kernel, by decide +kernel⟩
theorem ok_r_times (T : Txt K mg) : Ok P w K mg base 2 "r_times" "r_times" (defArgs s_r_times) (defBody s_r_times) (defScope s_r_times) ["one", "other"] (spD K 2 g_r_times) :=
  mkD (N := ["one", "other"]) T.a_r_times sc_r_times 2 rfl (fun _ _ _ _ _ _ us hl => match us, hl with | [_, _], _ => rfl) (fun f cdv A outer s H hg0 hr0 => by
    have hg : (cxOf CX0 P w K mg base ["one", "other"] "r_times" (defScope s_r_times) f cdv A outer s H E0).nox.A.guards = some [] := hg0
    have hr : Room 1 (cxOf CX0 P w K mg base ["one", "other"] "r_times" (defScope s_r_times) f cdv A outer s H E0).nox.A := hr0
    have hu := hr.units
    have hu1 := room65 hr
    have nd := sc_r_times.nd
    exact jss_cons (js_ret (je_ok (ok_made T) hg hr (by rfl) (jes_cons (je_op op_mulAll pr_mul (jp_of (je_ix ix_seq pr_ix (jp_var 0 (pv 0)) (jp_of (je_int)))) (jp_of (je_ix ix_seq pr_ix (jp_var 1 (pv 1)) (jp_of (je_int))))) (jes_cons (je_op op_mulAll pr_mul (jp_of (je_ix ix_seq pr_ix (jp_var 0 (pv 0)) (jp_of (je_int)))) (jp_of (je_ix ix_seq pr_ix (jp_var 1 (pv 1)) (jp_of (je_int))))) (jes_nil)))))
      (jss_nil))
theorem sc_r_over : FnScope ["one", "other"] ["one", "other"] (defScope s_r_over) := ⟨rfl, rfl, rfl, by decide +kernel, rfl, by decide +kernel, by decide +kernel⟩
theorem ok_r_over (T : Txt K mg) : Ok P w K mg base 2 "r_over" "r_over" (defArgs s_r_over) (defBody s_r_over) (defScope s_r_over) ["one", "other"] (spD K 2 g_r_over) :=
  mkD (N := ["one", "other"]) T.a_r_over sc_r_over 2 rfl (fun _ _ _ _ _ _ us hl => match us, hl with | [_, _], _ => rfl) (fun f cdv A outer s H hg0 hr0 => by
    have hg : (cxOf CX0 P w K mg base ["one", "other"] "r_over" (defScope s_r_over) f cdv A outer s H E0).nox.A.guards = some [] := hg0
    have hr : Room 1 (cxOf CX0 P w K mg base ["one", "other"] "r_over" (defScope s_r_over) f cdv A outer s H E0).nox.A := hr0
    have hu := hr.units
    have hu1 := room65 hr
    have nd := sc_r_over.nd
    exact jss_cons (js_ret (je_ok (ok_made T) hg hr (by rfl) (jes_cons (je_op op_mulAll pr_mul (jp_of (je_ix ix_seq pr_ix (jp_var 0 (pv 0)) (jp_of (je_int)))) (jp_of (je_ix ix_seq pr_ix (jp_var 1 (pv 1)) (jp_of (je_int))))) (jes_cons (je_op op_mulAll pr_mul (jp_of (je_ix ix_seq pr_ix (jp_var 0 (pv 0)) (jp_of (je_int)))) (jp_of (je_ix ix_seq pr_ix (jp_var 1 (pv 1)) (jp_of (je_int))))) (jes_nil)))))
      (jss_nil))
theorem sc_r_total : FnScope ["values", "bottom", "top", "under"] ["values"] (defScope s_r_total) := ⟨rfl, rfl, rfl, by decide +kernel, rfl, by decide +kernel, by decide +kernel⟩
theorem ok_r_total (T : Txt K mg) : Ok P w K mg base 2 "r_total" "r_total" (defArgs s_r_total) (defBody s_r_total) (defScope s_r_total) ["values"] (spD K 1 g_r_total) :=
  mkD (N := ["values", "bottom", "top", "under"]) T.a_r_total sc_r_total 1 rfl (fun _ _ _ _ _ _ us hl => match us, hl with | [_], _ => rfl) (fun f cdv A outer s H hg0 hr0 => by
    have hg : (cxOf CX0 P w K mg base ["values", "bottom", "top", "under"] "r_total" (defScope s_r_total) f cdv A outer s H E0).nox.A.guards = some [] := hg0
    have hr : Room 1 (cxOf CX0 P w K mg base ["values", "bottom", "top", "under"] "r_total" (defScope s_r_total) f cdv A outer s H E0).nox.A := hr0
    have hu := hr.units
    have hu1 := room65 hr
    have nd := sc_r_total.nd
    exact jss_cons (js_set (ps_set (i := 1) nd rfl (by first | exact Or.inl rfl | exact Or.inr rfl) (je_ok (ok_common T) hg hr (by rfl) (jes_cons (je_var 0 (pv 0)) (jes_nil)))))
      (jss_cons (js_ret (je_ok (ok_made T) hg hr (by rfl) (jes_cons (je_fn pr_sum (pe_callB (cr_sum rfl) (by rfl) T.n_sum (by decide +kernel) (jps_cons (jp_of (je_fz (jn_lc (own := [("top", 2), ("under", 3)]) rfl nd (ji_seq (je_var 0 (pv 0))) (blkOk_by (N := ["values", "bottom", "top", "under"]) (sc := defScope s_r_total) (own := [("top", 2), ("under", 3)]) (by decide +kernel)) (fun _ _ _ _ _ => jg_tup rfl (jgs_cons (jg_name (pg_name (i := 2) nd rfl (by first | exact Or.inl rfl | exact Or.inr rfl))) (jgs_cons (jg_name (pg_name (i := 3) nd rfl (by first | exact Or.inl rfl | exact Or.inr rfl))) (jgs_nil)))) (fun _ _ _ _ _ => jt_yes) (fun _ _ _ _ _ => je_op op_mulAll pr_mul (jp_var 2 (pv 2)) (jp_of (je_op op_divX pr_div (jp_var 1 (pv 1)) (jp_var 3 (pv 3)))))))) (jps_nil)))) (jes_cons (je_var 1 (pv 1)) (jes_nil)))))
      (jss_nil)))
theorem sc__law_pick : FnScope ["pot", "some"] ["pot", "some"] (defScope s__law_pick) := ⟨rfl, rfl, rfl, by decide +kernel, rfl, by decide +kernel, by decide +kernel⟩
theorem ok__law_pick (T : Txt K mg) : Ok P w K mg base 2 "_law_pick" "_law_pick" (defArgs s__law_pick) (defBody s__law_pick) (defScope s__law_pick) ["pot", "some"] (spL K 1 g__law_pick) :=
  mkL (N := ["pot", "some"]) T.a__law_pick sc__law_pick 1 rfl (fun _ _ _ _ _ _ us hl => match us, hl with | [_, _], _ => rfl) (fun f cdv A outer s H hg0 hr0 => by
    have hg : (cxOf CX0 P w K mg base ["pot", "some"] "_law_pick" (defScope s__law_pick) f cdv A outer s H E0).nox.A.guards = some [] := hg0
    have hr : Room 1 (cxOf CX0 P w K mg base ["pot", "some"] "_law_pick" (defScope s__law_pick) f cdv A outer s H E0).nox.A := hr0
    have hu := hr.units
    have hu1 := room65 hr
    have nd := sc__law_pick.nd
    exact jss_cons (js_ret (je_ix ix_seq pr_ix (jp_var 1 (pv 1)) (jp_of (je_okL 0 (ok__law_draw T) hg hr (by rfl) (pv 0) (jes_cons (je_fn pr_len (pe_callB cr_lenAll (by rfl) T.n_len PySem.boot_len (jps_cons (jp_var 1 (pv 1)) (jps_nil)))) (jes_nil))))))
      (jss_nil))
theorem sc__law_plus : FnScope ["one", "other"] ["one", "other"] (defScope s__law_plus) := ⟨rfl, rfl, rfl, by decide +kernel, rfl, by decide +kernel, by decide +kernel⟩
theorem ok__law_plus (T : Txt K mg) : Ok P w K mg base 2 "_law_plus" "_law_plus" (defArgs s__law_plus) (defBody s__law_plus) (defScope s__law_plus) ["one", "other"] (spD K 2 g__law_plus) :=
  mkD (N := ["one", "other"]) T.a__law_plus sc__law_plus 2 rfl (fun _ _ _ _ _ _ us hl => match us, hl with | [_, _], _ => rfl) (fun f cdv A outer s H hg0 hr0 => by
    have hg : (cxOf CX0 P w K mg base ["one", "other"] "_law_plus" (defScope s__law_plus) f cdv A outer s H E0).nox.A.guards = some [] := hg0
    have hr : Room 1 (cxOf CX0 P w K mg base ["one", "other"] "_law_plus" (defScope s__law_plus) f cdv A outer s H E0).nox.A := hr0
    have hu := hr.units
    have hu1 := room65 hr
    have nd := sc__law_plus.nd
    exact jss_cons (js_ret (je_ok (ok__law_frac T) hg hr (by rfl) (jes_cons (je_op op_addAll pr_add (jp_of (je_op op_mulAll pr_mul (jp_of (je_ix ix_seq pr_ix (jp_var 0 (pv 0)) (jp_of (je_int)))) (jp_of (je_ix ix_seq pr_ix (jp_var 1 (pv 1)) (jp_of (je_int)))))) (jp_of (je_op op_mulAll pr_mul (jp_of (je_ix ix_seq pr_ix (jp_var 1 (pv 1)) (jp_of (je_int)))) (jp_of (je_ix ix_seq pr_ix (jp_var 0 (pv 0)) (jp_of (je_int))))))) (jes_cons (je_op op_mulAll pr_mul (jp_of (je_ix ix_seq pr_ix (jp_var 0 (pv 0)) (jp_of (je_int)))) (jp_of (je_ix ix_seq pr_ix (jp_var 1 (pv 1)) (jp_of (je_int))))) (jes_nil)))))
      (jss_nil))
theorem sc__law_minus : FnScope ["one", "other"] ["one", "other"] (defScope s__law_minus) := ⟨rfl, rfl, rfl, by decide +kernel, rfl, by decide +kernel, by decide +kernel⟩
theorem ok__law_minus (T : Txt K mg) : Ok P w K mg base 2 "_law_minus" "_law_minus" (defArgs s__law_minus) (defBody s__law_minus) (defScope s__law_minus) ["one", "other"] (spD K 2 g__law_minus) :=
  mkD (N := ["one", "other"]) T.a__law_minus sc__law_minus 2 rfl (fun _ _ _ _ _ _ us hl => match us, hl with | [_, _], _ => rfl) (fun f cdv A outer s H hg0 hr0 => by
    have hg : (cxOf CX0 P w K mg base ["one", "other"] "_law_minus" (defScope s__law_minus) f cdv A outer s H E0).nox.A.guards = some [] := hg0
    have hr : Room 1 (cxOf CX0 P w K mg base ["one", "other"] "_law_minus" (defScope s__law_minus) f cdv A outer s H E0).nox.A := hr0
    have hu := hr.units
    have hu1 := room65 hr
    have nd := sc__law_minus.nd
    exact jss_cons (js_ret (je_ok (ok__law_frac T) hg hr (by rfl) (jes_cons (je_op op_sub pr_sub (jp_of (je_op op_mulAll pr_mul (jp_of (je_ix ix_seq pr_ix (jp_var 0 (pv 0)) (jp_of (je_int)))) (jp_of (je_ix ix_seq pr_ix (jp_var 1 (pv 1)) (jp_of (je_int)))))) (jp_of (je_op op_mulAll pr_mul (jp_of (je_ix ix_seq pr_ix (jp_var 1 (pv 1)) (jp_of (je_int)))) (jp_of (je_ix ix_seq pr_ix (jp_var 0 (pv 0)) (jp_of (je_int))))))) (jes_cons (je_op op_mulAll pr_mul (jp_of (je_ix ix_seq pr_ix (jp_var 0 (pv 0)) (jp_of (je_int)))) (jp_of (je_ix ix_seq pr_ix (jp_var 1 (pv 1)) (jp_of (je_int))))) (jes_nil)))))
      (jss_nil))
theorem sc__law_times : FnScope ["one", "other"] ["one", "other"] (defScope s__law_times) := ⟨rfl, rfl, rfl, by decide +kernel, rfl, by decide +kernel, by decide +kernel⟩
theorem ok__law_times (T : Txt K mg) : Ok P w K mg base 2 "_law_times" "_law_times" (defArgs s__law_times) (defBody s__law_times) (defScope s__law_times) ["one", "other"] (spD K 2 g__law_times) :=
  mkD (N := ["one", "other"]) T.a__law_times sc__law_times 2 rfl (fun _ _ _ _ _ _ us hl => match us, hl with | [_, _], _ => rfl) (fun f cdv A outer s H hg0 hr0 => by
    have hg : (cxOf CX0 P w K mg base ["one", "other"] "_law_times" (defScope s__law_times) f cdv A outer s H E0).nox.A.guards = some [] := hg0
    have hr : Room 1 (cxOf CX0 P w K mg base ["one", "other"] "_law_times" (defScope s__law_times) f cdv A outer s H E0).nox.A := hr0
    have hu := hr.units
    have hu1 := room65 hr
    have nd := sc__law_times.nd
    exact jss_cons (js_ret (je_ok (ok__law_frac T) hg hr (by rfl) (jes_cons (je_op op_mulAll pr_mul (jp_of (je_ix ix_seq pr_ix (jp_var 0 (pv 0)) (jp_of (je_int)))) (jp_of (je_ix ix_seq pr_ix (jp_var 1 (pv 1)) (jp_of (je_int))))) (jes_cons (je_op op_mulAll pr_mul (jp_of (je_ix ix_seq pr_ix (jp_var 0 (pv 0)) (jp_of (je_int)))) (jp_of (je_ix ix_seq pr_ix (jp_var 1 (pv 1)) (jp_of (je_int))))) (jes_nil)))))
      (jss_nil))
theorem sc__law_by : FnScope ["one", "other"] ["one", "other"] (defScope s__law_by) := ⟨rfl, rfl, rfl, by decide +kernel, rfl, by decide +kernel, by decide +kernel⟩
theorem ok__law_by (T : Txt K mg) : Ok P w K mg base 2 "_law_by" "_law_by" (defArgs s__law_by) (defBody s__law_by) (defScope s__law_by) ["one", "other"] (spD K 2 g__law_by) :=
  mkD (N := ["one", "other"]) T.a__law_by sc__law_by 2 rfl (fun _ _ _ _ _ _ us hl => match us, hl with | [_, _], _ => rfl) (fun f cdv A outer s H hg0 hr0 => by
    have hg : (cxOf CX0 P w K mg base ["one", "other"] "_law_by" (defScope s__law_by) f cdv A outer s H E0).nox.A.guards = some [] := hg0
    have hr : Room 1 (cxOf CX0 P w K mg base ["one", "other"] "_law_by" (defScope s__law_by) f cdv A outer s H E0).nox.A := hr0
    have hu := hr.units
    have hu1 := room65 hr
    have nd := sc__law_by.nd
    exact jss_cons (js_ret (je_ok (ok__law_frac T) hg hr (by rfl) (jes_cons (je_op op_mulAll pr_mul (jp_of (je_ix ix_seq pr_ix (jp_var 0 (pv 0)) (jp_of (je_int)))) (jp_of (je_ix ix_seq pr_ix (jp_var 1 (pv 1)) (jp_of (je_int))))) (jes_cons (je_op op_mulAll pr_mul (jp_of (je_ix ix_seq pr_ix (jp_var 0 (pv 0)) (jp_of (je_int)))) (jp_of (je_ix ix_seq pr_ix (jp_var 1 (pv 1)) (jp_of (je_int))))) (jes_nil)))))
      (jss_nil))
theorem sc_is_number : FnScope ["value"] ["value"] (defScope s_is_number) := ⟨rfl, rfl, rfl, by decide +kernel, rfl, by decide +kernel, by decide +kernel⟩
theorem ok_is_number (T : Txt K mg) : Ok P w K mg base 3 "is_number" "is_number" (defArgs s_is_number) (defBody s_is_number) (defScope s_is_number) ["value"] (spD K 1 g_is_number) :=
  mkD (N := ["value"]) T.a_is_number sc_is_number 1 rfl (fun _ _ _ _ _ _ us hl => match us, hl with | [_], _ => rfl) (fun f cdv A outer s H hg0 hr0 => by
    have hg : (cxOf CX0 P w K mg base ["value"] "is_number" (defScope s_is_number) f cdv A outer s H E0).nox.A.guards = some [] := hg0
    have hr : Room 2 (cxOf CX0 P w K mg base ["value"] "is_number" (defScope s_is_number) f cdv A outer s H E0).nox.A := hr0
    have hu := hr.units
    have hu1 := room65 hr
    have nd := sc_is_number.nd
    exact jss_cons (js_ret (je_or (je_ok (ok_is_integer T) hg hr (by rfl) (jes_cons (je_var 0 (pv 0)) (jes_nil))) (je_one (je_ok (ok_is_ratio T) hg hr (by rfl) (jes_cons (je_var 0 (pv 0)) (jes_nil))))))
      (jss_nil))
theorem sc_pairs_of : FnScope ["line", "one"] ["line"] (defScope s_pairs_of) := ⟨rfl, rfl, rfl, by decide +kernel, rfl, by decide +kernel, by decide +kernel⟩
theorem ok_pairs_of (T : Txt K mg) : Ok P w K mg base 3 "pairs_of" "pairs_of" (defArgs s_pairs_of) (defBody s_pairs_of) (defScope s_pairs_of) ["line"] (spD K 1 g_pairs_of) :=
  mkD (N := ["line", "one"]) T.a_pairs_of sc_pairs_of 1 rfl (fun _ _ _ _ _ _ us hl => match us, hl with | [_], _ => rfl) (fun f cdv A outer s H hg0 hr0 => by
    have hg : (cxOf CX0 P w K mg base ["line", "one"] "pairs_of" (defScope s_pairs_of) f cdv A outer s H E0).nox.A.guards = some [] := hg0
    have hr : Room 2 (cxOf CX0 P w K mg base ["line", "one"] "pairs_of" (defScope s_pairs_of) f cdv A outer s H E0).nox.A := hr0
    have hu := hr.units
    have hu1 := room65 hr
    have nd := sc_pairs_of.nd
    exact jss_cons (js_retN (jn_lc (own := [("one", 1)]) rfl nd (ji_seq (je_var 0 (pv 0))) (blkOk_by (N := ["line", "one"]) (sc := defScope s_pairs_of) (own := [("one", 1)]) (by decide +kernel)) (fun _ _ _ _ _ => jg_name (pg_name (i := 1) nd rfl (by first | exact Or.inl rfl | exact Or.inr rfl))) (fun _ _ _ _ _ => jt_yes) (fun _ _ _ _ _ => je_ok (ok_pair_of T) hg hr (by rfl) (jes_cons (je_var 1 (pv 1)) (jes_nil)))))
      (jss_nil))
theorem sc_r_dot : FnScope ["line", "second", "one", "other"] ["line", "second"] (defScope s_r_dot) := ⟨rfl, rfl, rfl, by decide +kernel, rfl, by decide +kernel, by decide +kernel⟩
theorem ok_r_dot (T : Txt K mg) : Ok P w K mg base 3 "r_dot" "r_dot" (defArgs s_r_dot) (defBody s_r_dot) (defScope s_r_dot) ["line", "second"] (spD K 2 g_r_dot) :=
  mkD (N := ["line", "second", "one", "other"]) T.a_r_dot sc_r_dot 2 rfl (fun _ _ _ _ _ _ us hl => match us, hl with | [_, _], _ => rfl) (fun f cdv A outer s H hg0 hr0 => by
    have hg : (cxOf CX0 P w K mg base ["line", "second", "one", "other"] "r_dot" (defScope s_r_dot) f cdv A outer s H E0).nox.A.guards = some [] := hg0
    have hr : Room 2 (cxOf CX0 P w K mg base ["line", "second", "one", "other"] "r_dot" (defScope s_r_dot) f cdv A outer s H E0).nox.A := hr0
    have hu := hr.units
    have hu1 := room65 hr
    have nd := sc_r_dot.nd
    exact jss_cons (js_ret (je_ok (ok_r_total T) hg hr (by rfl) (jes_cons (je_fz (jn_lc (own := [("one", 2), ("other", 3)]) rfl nd (ji_zip (pi_zipM (by rfl) T.n_zip (jes_cons (je_var 0 (pv 0)) (jes_cons (je_var 1 (pv 1)) (jes_nil))))) (blkOk_by (N := ["line", "second", "one", "other"]) (sc := defScope s_r_dot) (own := [("one", 2), ("other", 3)]) (by decide +kernel)) (fun _ _ _ _ _ => jg_tup rfl (jgs_cons (jg_name (pg_name (i := 2) nd rfl (by first | exact Or.inl rfl | exact Or.inr rfl))) (jgs_cons (jg_name (pg_name (i := 3) nd rfl (by first | exact Or.inl rfl | exact Or.inr rfl))) (jgs_nil)))) (fun _ _ _ _ _ => jt_yes) (fun _ _ _ _ _ => je_ok (ok_r_times T) hg hr (by rfl) (jes_cons (je_var 2 (pv 2)) (jes_cons (je_var 3 (pv 3)) (jes_nil)))))) (jes_nil))))
      (jss_nil))
theorem sc_numbers_by : FnScope ["places", "found", "at", "place", "number", "other"] ["places"] (defScope s_numbers_by) := ⟨rfl, rfl, rfl, by decide +kernel, rfl, by decide +kernel, by decide +kernel⟩
theorem ok_numbers_by (T : Txt K mg) : Ok P w K mg base 3 "numbers_by" "numbers_by" (defArgs s_numbers_by) (defBody s_numbers_by) (defScope s_numbers_by) ["places"] (spD K 1 g_numbers_by) :=
  mkD (N := ["places", "found", "at", "place", "number", "other"]) T.a_numbers_by sc_numbers_by 1 rfl (fun _ _ _ _ _ _ us hl => match us, hl with | [_], _ => rfl) (fun f cdv A outer s H hg0 hr0 => by
    have hg : (cxOf CX0 P w K mg base ["places", "found", "at", "place", "number", "other"] "numbers_by" (defScope s_numbers_by) f cdv A outer s H E0).nox.A.guards = some [] := hg0
    have hr : Room 2 (cxOf CX0 P w K mg base ["places", "found", "at", "place", "number", "other"] "numbers_by" (defScope s_numbers_by) f cdv A outer s H E0).nox.A := hr0
    have hu := hr.units
    have hu1 := room65 hr
    have nd := sc_numbers_by.nd
    exact jss_cons (js_setN (ps_set (i := 1) nd rfl (by first | exact Or.inl rfl | exact Or.inr rfl) (jn_lst (jes_nil))))
      (jss_cons (js_for PassesOwn.never rfl (ji_enum (pi_enumM (by rfl) T.n_enumerate (jes_cons (je_var 0 (pv 0)) (jes_nil)))) (vs := [2, 3]) (jg_tup rfl (jgs_cons (jg_name (pg_name (i := 2) nd rfl (by first | exact Or.inl rfl | exact Or.inr rfl))) (jgs_cons (jg_name (pg_name (i := 3) nd rfl (by first | exact Or.inl rfl | exact Or.inr rfl))) (jgs_nil)))) (jss_cons (js_set (ps_set (i := 4) nd rfl (by first | exact Or.inl rfl | exact Or.inr rfl) (je_con (by rfl) T.c_ONE)))
      (jss_cons (js_for PassesOwn.never rfl (ji_seq (je_op op_addAll pr_add (jp_of (je_sl sl_all pr_sl (jp_var 0 (pv 0)) (jo_none) (jo_some (je_var 2 (pv 2))))) (jp_of (je_sl sl_all pr_sl (jp_var 0 (pv 0)) (jo_some (je_op op_addAll pr_add (jp_var 2 (pv 2)) (jp_of (je_int)))) (jo_none))))) (vs := [5]) (jg_name (pg_name (i := 5) nd rfl (by first | exact Or.inl rfl | exact Or.inr rfl))) (jss_cons (js_set (ps_set (i := 4) nd rfl (by first | exact Or.inl rfl | exact Or.inr rfl) (je_ok (ok_r_times T) hg hr (by rfl) (jes_cons (je_var 4 (pv 4)) (jes_cons (je_ok (ok_r_minus T) hg hr (by rfl) (jes_cons (je_var 3 (pv 3)) (jes_cons (je_var 5 (pv 5)) (jes_nil)))) (jes_nil))))))
      (jss_nil)))
      (jss_cons (js_expr (je_meth 1 pr_app (pe_bm PySem.F.plainAttrs_list PySem.F.slot_list_append PySem.F.type_list_append (mt_append) (pv 1) (jes_cons (je_ok (ok_r_over T) hg hr (by rfl) (jes_cons (je_con (by rfl) T.c_ONE) (jes_cons (je_var 4 (pv 4)) (jes_nil)))) (jes_nil)))))
      (jss_nil)))))
      (jss_cons (js_retV 1 (pv 1))
      (jss_nil))))
theorem sc_longer_by : FnScope ["coefficients", "place", "found", "at", "one"] ["coefficients", "place"] (defScope s_longer_by) := ⟨rfl, rfl, rfl, by decide +kernel, rfl, by decide +kernel, by decide +kernel⟩
theorem ok_longer_by (T : Txt K mg) : Ok P w K mg base 3 "longer_by" "longer_by" (defArgs s_longer_by) (defBody s_longer_by) (defScope s_longer_by) ["coefficients", "place"] (spD K 2 g_longer_by) :=
  mkD (N := ["coefficients", "place", "found", "at", "one"]) T.a_longer_by sc_longer_by 2 rfl (fun _ _ _ _ _ _ us hl => match us, hl with | [_, _], _ => rfl) (fun f cdv A outer s H hg0 hr0 => by
    have hg : (cxOf CX0 P w K mg base ["coefficients", "place", "found", "at", "one"] "longer_by" (defScope s_longer_by) f cdv A outer s H E0).nox.A.guards = some [] := hg0
    have hr : Room 2 (cxOf CX0 P w K mg base ["coefficients", "place", "found", "at", "one"] "longer_by" (defScope s_longer_by) f cdv A outer s H E0).nox.A := hr0
    have hu := hr.units
    have hu1 := room65 hr
    have nd := sc_longer_by.nd
    exact jss_cons (js_setN (ps_set (i := 2) nd rfl (by first | exact Or.inl rfl | exact Or.inr rfl) (jn_op op_addAll pr_addN (jp_of (je_fz (jn_lst (jes_cons (je_con (by rfl) T.c_NOUGHT) (jes_nil))))) (jp_var 0 (pv 0)))))
      (jss_cons (js_for PassesOwn.never rfl (ji_enum (pi_enumM (by rfl) T.n_enumerate (jes_cons (je_var 0 (pv 0)) (jes_nil)))) (vs := [3, 4]) (jg_tup rfl (jgs_cons (jg_name (pg_name (i := 3) nd rfl (by first | exact Or.inl rfl | exact Or.inr rfl))) (jgs_cons (jg_name (pg_name (i := 4) nd rfl (by first | exact Or.inl rfl | exact Or.inr rfl))) (jgs_nil)))) (jss_cons (js_asg (vs := [2, 3]) (ps_asg (je_ok (ok_r_minus T) hg hr (by rfl) (jes_cons (je_ix ix_seq pr_ix (jp_var 2 (pv 2)) (jp_var 3 (pv 3))) (jes_cons (je_ok (ok_r_times T) hg hr (by rfl) (jes_cons (je_var 4 (pv 4)) (jes_cons (je_var 1 (pv 1)) (jes_nil)))) (jes_nil)))) (jg_sub 2 (pv 2) (je_var 3 (pv 3)))))
      (jss_nil)))
      (jss_cons (js_retV 2 (pv 2))
      (jss_nil))))
theorem sc_power_by : FnScope ["coefficients", "spot", "found", "one"] ["coefficients", "spot"] (defScope s_power_by) := ⟨rfl, rfl, rfl, by decide +kernel, rfl, by decide +kernel, by decide +kernel⟩
theorem ok_power_by (T : Txt K mg) : Ok P w K mg base 3 "power_by" "power_by" (defArgs s_power_by) (defBody s_power_by) (defScope s_power_by) ["coefficients", "spot"] (spD K 2 g_power_by) :=
  mkD (N := ["coefficients", "spot", "found", "one"]) T.a_power_by sc_power_by 2 rfl (fun _ _ _ _ _ _ us hl => match us, hl with | [_, _], _ => rfl) (fun f cdv A outer s H hg0 hr0 => by
    have hg : (cxOf CX0 P w K mg base ["coefficients", "spot", "found", "one"] "power_by" (defScope s_power_by) f cdv A outer s H E0).nox.A.guards = some [] := hg0
    have hr : Room 2 (cxOf CX0 P w K mg base ["coefficients", "spot", "found", "one"] "power_by" (defScope s_power_by) f cdv A outer s H E0).nox.A := hr0
    have hu := hr.units
    have hu1 := room65 hr
    have nd := sc_power_by.nd
    exact jss_cons (js_set (ps_set (i := 2) nd rfl (by first | exact Or.inl rfl | exact Or.inr rfl) (je_con (by rfl) T.c_NOUGHT)))
      (jss_cons (js_for PassesOwn.never rfl (ji_seq (je_rev (jp_var 0 (pv 0)))) (vs := [3]) (jg_name (pg_name (i := 3) nd rfl (by first | exact Or.inl rfl | exact Or.inr rfl))) (jss_cons (js_set (ps_set (i := 2) nd rfl (by first | exact Or.inl rfl | exact Or.inr rfl) (je_ok (ok_r_plus T) hg hr (by rfl) (jes_cons (je_ok (ok_r_times T) hg hr (by rfl) (jes_cons (je_var 2 (pv 2)) (jes_cons (je_var 1 (pv 1)) (jes_nil)))) (jes_cons (je_var 3 (pv 3)) (jes_nil))))))
      (jss_nil)))
      (jss_cons (js_ret (je_var 2 (pv 2)))
      (jss_nil))))
theorem sc__law_dot : FnScope ["line", "other", "found", "one", "more"] ["line", "other"] (defScope s__law_dot) := ⟨rfl, rfl, rfl, by decide +kernel, rfl, by decide +kernel, by decide +kernel⟩
theorem ok__law_dot (T : Txt K mg) : Ok P w K mg base 3 "_law_dot" "_law_dot" (defArgs s__law_dot) (defBody s__law_dot) (defScope s__law_dot) ["line", "other"] (spD K 2 g__law_dot) :=
  mkD (N := ["line", "other", "found", "one", "more"]) T.a__law_dot sc__law_dot 2 rfl (fun _ _ _ _ _ _ us hl => match us, hl with | [_, _], _ => rfl) (fun f cdv A outer s H hg0 hr0 => by
    have hg : (cxOf CX0 P w K mg base ["line", "other", "found", "one", "more"] "_law_dot" (defScope s__law_dot) f cdv A outer s H E0).nox.A.guards = some [] := hg0
    have hr : Room 2 (cxOf CX0 P w K mg base ["line", "other", "found", "one", "more"] "_law_dot" (defScope s__law_dot) f cdv A outer s H E0).nox.A := hr0
    have hu := hr.units
    have hu1 := room65 hr
    have nd := sc__law_dot.nd
    exact jss_cons (js_set (ps_set (i := 2) nd rfl (by first | exact Or.inl rfl | exact Or.inr rfl) (je_tup (jes_cons (je_int) (jes_cons (je_int) (jes_nil))))))
      (jss_cons (js_for PassesOwn.never rfl (ji_zip (pi_zipM (by rfl) T.n_zip (jes_cons (je_var 0 (pv 0)) (jes_cons (je_var 1 (pv 1)) (jes_nil))))) (vs := [3, 4]) (jg_tup rfl (jgs_cons (jg_name (pg_name (i := 3) nd rfl (by first | exact Or.inl rfl | exact Or.inr rfl))) (jgs_cons (jg_name (pg_name (i := 4) nd rfl (by first | exact Or.inl rfl | exact Or.inr rfl))) (jgs_nil)))) (jss_cons (js_set (ps_set (i := 2) nd rfl (by first | exact Or.inl rfl | exact Or.inr rfl) (je_ok (ok__law_plus T) hg hr (by rfl) (jes_cons (je_var 2 (pv 2)) (jes_cons (je_ok (ok__law_times T) hg hr (by rfl) (jes_cons (je_var 3 (pv 3)) (jes_cons (je_var 4 (pv 4)) (jes_nil)))) (jes_nil))))))
      (jss_nil)))
      (jss_cons (js_ret (je_var 2 (pv 2)))
      (jss_nil))))
theorem sc__law_small : FnScope ["pot"] ["pot"] (defScope s__law_small) := ⟨rfl, rfl, rfl, by decide +kernel, rfl, by decide +kernel, by decide +kernel⟩
theorem ok__law_small (T : Txt K mg) : Ok P w K mg base 3 "_law_small" "_law_small" (defArgs s__law_small) (defBody s__law_small) (defScope s__law_small) ["pot"] (spL K 0 g__law_small) :=
  mkL (N := ["pot"]) T.a__law_small sc__law_small 0 rfl (fun _ _ _ _ _ _ us hl => match us, hl with | [_], _ => rfl) (fun f cdv A outer s H hg0 hr0 => by
    have hg : (cxOf CX0 P w K mg base ["pot"] "_law_small" (defScope s__law_small) f cdv A outer s H E0).nox.A.guards = some [] := hg0
    have hr : Room 2 (cxOf CX0 P w K mg base ["pot"] "_law_small" (defScope s__law_small) f cdv A outer s H E0).nox.A := hr0
    have hu := hr.units
    have hu1 := room65 hr
    have nd := sc__law_small.nd
    exact jss_cons (js_ret (je_okL 0 (ok__law_pick T) hg hr (by rfl) (pv 0) (jes_cons (je_fz (jn_lst (jes_cons (je_op op_sub pr_sub (jp_of (je_okL 0 (ok__law_draw T) hg hr (by rfl) (pv 0) (jes_cons (je_int) (jes_nil)))) (jp_of (je_int))) (jes_cons (je_op op_sub pr_sub (jp_of (je_okL 0 (ok__law_draw T) hg hr (by rfl) (pv 0) (jes_cons (je_int) (jes_nil)))) (jp_of (je_int))) (jes_cons (je_op op_sub pr_sub (jp_of (je_okL 0 (ok__law_draw T) hg hr (by rfl) (pv 0) (jes_cons (je_int) (jes_nil)))) (jp_of (je_int))) (jes_cons (je_ok (ok__law_frac T) hg hr (by rfl) (jes_cons (je_op op_sub pr_sub (jp_of (je_okL 0 (ok__law_draw T) hg hr (by rfl) (pv 0) (jes_cons (je_int) (jes_nil)))) (jp_of (je_int))) (jes_cons (je_int) (jes_nil)))) (jes_cons (je_ok (ok__law_frac T) hg hr (by rfl) (jes_cons (je_op op_sub pr_sub (jp_of (je_okL 0 (ok__law_draw T) hg hr (by rfl) (pv 0) (jes_cons (je_int) (jes_nil)))) (jp_of (je_int))) (jes_cons (je_int) (jes_nil)))) (jes_nil)))))))) (jes_nil))))
      (jss_nil))
theorem sc__law_total : FnScope ["line", "found", "one"] ["line"] (defScope s__law_total) := ⟨rfl, rfl, rfl, by decide +kernel, rfl, by decide +kernel, by decide +kernel⟩
theorem ok__law_total (T : Txt K mg) : Ok P w K mg base 3 "_law_total" "_law_total" (defArgs s__law_total) (defBody s__law_total) (defScope s__law_total) ["line"] (spD K 1 g__law_total) :=
  mkD (N := ["line", "found", "one"]) T.a__law_total sc__law_total 1 rfl (fun _ _ _ _ _ _ us hl => match us, hl with | [_], _ => rfl) (fun f cdv A outer s H hg0 hr0 => by
    have hg : (cxOf CX0 P w K mg base ["line", "found", "one"] "_law_total" (defScope s__law_total) f cdv A outer s H E0).nox.A.guards = some [] := hg0
    have hr : Room 2 (cxOf CX0 P w K mg base ["line", "found", "one"] "_law_total" (defScope s__law_total) f cdv A outer s H E0).nox.A := hr0
    have hu := hr.units
    have hu1 := room65 hr
    have nd := sc__law_total.nd
    exact jss_cons (js_set (ps_set (i := 1) nd rfl (by first | exact Or.inl rfl | exact Or.inr rfl) (je_tup (jes_cons (je_int) (jes_cons (je_int) (jes_nil))))))
      (jss_cons (js_for PassesOwn.never rfl (ji_seq (je_var 0 (pv 0))) (vs := [2]) (jg_name (pg_name (i := 2) nd rfl (by first | exact Or.inl rfl | exact Or.inr rfl))) (jss_cons (js_set (ps_set (i := 1) nd rfl (by first | exact Or.inl rfl | exact Or.inr rfl) (je_ok (ok__law_plus T) hg hr (by rfl) (jes_cons (je_var 1 (pv 1)) (jes_cons (je_var 2 (pv 2)) (jes_nil))))))
      (jss_nil)))
      (jss_cons (js_ret (je_var 1 (pv 1)))
      (jss_nil))))
theorem sc__law_difference : FnScope ["pairs", "row", "many", "size", "longer", "at", "place", "worth"] ["pairs"] (defScope s__law_difference) := ⟨rfl, rfl, rfl, by decide +kernel, rfl, by decide +kernel, by decide +kernel⟩
theorem ok__law_difference (T : Txt K mg) : Ok P w K mg base 3 "_law_difference" "_law_difference" (defArgs s__law_difference) (defBody s__law_difference) (defScope s__law_difference) ["pairs"] (spD K 1 g__law_difference) :=
  mkD (N := ["pairs", "row", "many", "size", "longer", "at", "place", "worth"]) T.a__law_difference sc__law_difference 1 rfl (fun _ _ _ _ _ _ us hl => match us, hl with | [_], _ => rfl) (fun f cdv A outer s H hg0 hr0 => by
    have hg : (cxOf CX0 P w K mg base ["pairs", "row", "many", "size", "longer", "at", "place", "worth"] "_law_difference" (defScope s__law_difference) f cdv A outer s H E0).nox.A.guards = some [] := hg0
    have hr : Room 2 (cxOf CX0 P w K mg base ["pairs", "row", "many", "size", "longer", "at", "place", "worth"] "_law_difference" (defScope s__law_difference) f cdv A outer s H E0).nox.A := hr0
    have hu := hr.units
    have hu1 := room65 hr
    have nd := sc__law_difference.nd
    exact jss_cons (js_par2 (ps_par (i := 1) (j := 2) rfl nd rfl rfl (by decide) rfl rfl (jrs_E (je_fz (jn_lc (own := [("place", 6), ("worth", 7)]) rfl nd (ji_seq (je_var 0 (pv 0))) (blkOk_by (N := ["pairs", "row", "many", "size", "longer", "at", "place", "worth"]) (sc := defScope s__law_difference) (own := [("place", 6), ("worth", 7)]) (by decide +kernel)) (fun _ _ _ _ _ => jg_tup rfl (jgs_cons (jg_name (pg_name (i := 6) nd rfl (by first | exact Or.inl rfl | exact Or.inr rfl))) (jgs_cons (jg_name (pg_name (i := 7) nd rfl (by first | exact Or.inl rfl | exact Or.inr rfl))) (jgs_nil)))) (fun _ _ _ _ _ => jt_yes) (fun _ _ _ _ _ => je_var 7 (pv 7)))) (jrs_E (je_fn pr_len (pe_callB cr_lenAll (by rfl) T.n_len PySem.boot_len (jps_cons (jp_var 0 (pv 0)) (jps_nil)))) (jrs_nil))) (by rfl)))
      (jss_cons (js_for PassesOwn.never rfl (ji_range2 (pi_range2 (by rfl) T.n_range (jes_cons (je_int) (jes_cons (je_var 2 (pv 2)) (jes_nil)))) (len_esC (len_esC fun _ _ h => len_es0 h))) (vs := [3]) (jg_name (pg_name (i := 3) nd rfl (by first | exact Or.inl rfl | exact Or.inr rfl))) (jss_cons (js_setN (ps_set (i := 4) nd rfl (by first | exact Or.inl rfl | exact Or.inr rfl) (jn_lst (jes_nil))))
      (jss_cons (js_for PassesOwn.never rfl (ji_range1 (pi_range1 (by rfl) T.n_range (jes_cons (je_op op_sub pr_sub (jp_var 2 (pv 2)) (jp_var 3 (pv 3))) (jes_nil))) (len_esC fun _ _ h => len_es0 h)) (vs := [5]) (jg_name (pg_name (i := 5) nd rfl (by first | exact Or.inl rfl | exact Or.inr rfl))) (jss_cons (js_expr (je_meth 4 pr_app (pe_bm PySem.F.plainAttrs_list PySem.F.slot_list_append PySem.F.type_list_append (mt_append) (pv 4) (jes_cons (je_ok (ok__law_by T) hg hr (by rfl) (jes_cons (je_ok (ok__law_minus T) hg hr (by rfl) (jes_cons (je_ix ix_seq pr_ix (jp_var 1 (pv 1)) (jp_of (je_op op_addAll pr_add (jp_var 5 (pv 5)) (jp_of (je_int))))) (jes_cons (je_ix ix_seq pr_ix (jp_var 1 (pv 1)) (jp_var 5 (pv 5))) (jes_nil)))) (jes_cons (je_ok (ok__law_minus T) hg hr (by rfl) (jes_cons (je_ix ix_seq pr_ix (jp_of (je_ix ix_seq pr_ix (jp_var 0 (pv 0)) (jp_of (je_op op_addAll pr_add (jp_var 5 (pv 5)) (jp_var 3 (pv 3)))))) (jp_of (je_int))) (jes_cons (je_ix ix_seq pr_ix (jp_of (je_ix ix_seq pr_ix (jp_var 0 (pv 0)) (jp_var 5 (pv 5)))) (jp_of (je_int))) (jes_nil)))) (jes_nil)))) (jes_nil)))))
      (jss_nil)))
      (jss_cons (js_set (ps_set (i := 1) nd rfl (by first | exact Or.inl rfl | exact Or.inr rfl) (je_var 4 (pv 4))))
      (jss_nil)))))
      (jss_cons (js_ret (je_ix ix_seq pr_ix (jp_var 1 (pv 1)) (jp_of (je_int))))
      (jss_nil))))
theorem sc__law_numbers : FnScope ["places", "found", "at", "place", "number", "to", "other"] ["places"] (defScope s__law_numbers) := ⟨rfl, rfl, rfl, by decide +kernel, rfl, by decide +kernel, by decide +kernel⟩
theorem ok__law_numbers (T : Txt K mg) : Ok P w K mg base 3 "_law_numbers" "_law_numbers" (defArgs s__law_numbers) (defBody s__law_numbers) (defScope s__law_numbers) ["places"] (spD K 1 g__law_numbers) :=
  mkD (N := ["places", "found", "at", "place", "number", "to", "other"]) T.a__law_numbers sc__law_numbers 1 rfl (fun _ _ _ _ _ _ us hl => match us, hl with | [_], _ => rfl) (fun f cdv A outer s H hg0 hr0 => by
    have hg : (cxOf CX0 P w K mg base ["places", "found", "at", "place", "number", "to", "other"] "_law_numbers" (defScope s__law_numbers) f cdv A outer s H E0).nox.A.guards = some [] := hg0
    have hr : Room 2 (cxOf CX0 P w K mg base ["places", "found", "at", "place", "number", "to", "other"] "_law_numbers" (defScope s__law_numbers) f cdv A outer s H E0).nox.A := hr0
    have hu := hr.units
    have hu1 := room65 hr
    have nd := sc__law_numbers.nd
    exact jss_cons (js_setN (ps_set (i := 1) nd rfl (by first | exact Or.inl rfl | exact Or.inr rfl) (jn_lst (jes_nil))))
      (jss_cons (js_for PassesOwn.never rfl (ji_enum (pi_enumM (by rfl) T.n_enumerate (jes_cons (je_var 0 (pv 0)) (jes_nil)))) (vs := [2, 3]) (jg_tup rfl (jgs_cons (jg_name (pg_name (i := 2) nd rfl (by first | exact Or.inl rfl | exact Or.inr rfl))) (jgs_cons (jg_name (pg_name (i := 3) nd rfl (by first | exact Or.inl rfl | exact Or.inr rfl))) (jgs_nil)))) (jss_cons (js_set (ps_set (i := 4) nd rfl (by first | exact Or.inl rfl | exact Or.inr rfl) (je_tup (jes_cons (je_int) (jes_cons (je_int) (jes_nil))))))
      (jss_cons (js_for PassesOwn.never rfl (ji_enum (pi_enumM (by rfl) T.n_enumerate (jes_cons (je_var 0 (pv 0)) (jes_nil)))) (vs := [5, 6]) (jg_tup rfl (jgs_cons (jg_name (pg_name (i := 5) nd rfl (by first | exact Or.inl rfl | exact Or.inr rfl))) (jgs_cons (jg_name (pg_name (i := 6) nd rfl (by first | exact Or.inl rfl | exact Or.inr rfl))) (jgs_nil)))) (jss_cons (js_set (ps_set (i := 4) nd rfl (by first | exact Or.inl rfl | exact Or.inr rfl) (je_if (jt_cmp (op_eqA hu) pr_eq (jp_var 5 (pv 5)) (jp_var 2 (pv 2))) (je_var 4 (pv 4)) (je_ok (ok__law_by T) hg hr (by rfl) (jes_cons (je_var 4 (pv 4)) (jes_cons (je_ok (ok__law_minus T) hg hr (by rfl) (jes_cons (je_var 3 (pv 3)) (jes_cons (je_var 6 (pv 6)) (jes_nil)))) (jes_nil)))))))
      (jss_nil)))
      (jss_cons (js_expr (je_meth 1 pr_app (pe_bm PySem.F.plainAttrs_list PySem.F.slot_list_append PySem.F.type_list_append (mt_append) (pv 1) (jes_cons (je_var 4 (pv 4)) (jes_nil)))))
      (jss_nil)))))
      (jss_cons (js_retV 1 (pv 1))
      (jss_nil))))
theorem sc__law_power : FnScope ["place", "many", "found", "turn"] ["place", "many"] (defScope s__law_power) := ⟨rfl, rfl, rfl, by decide +kernel, rfl, by decide +kernel, by decide +kernel⟩
theorem ok__law_power (T : Txt K mg) : Ok P w K mg base 3 "_law_power" "_law_power" (defArgs s__law_power) (defBody s__law_power) (defScope s__law_power) ["place", "many"] (spD K 2 g__law_power) :=
  mkD (N := ["place", "many", "found", "turn"]) T.a__law_power sc__law_power 2 rfl (fun _ _ _ _ _ _ us hl => match us, hl with | [_, _], _ => rfl) (fun f cdv A outer s H hg0 hr0 => by
    have hg : (cxOf CX0 P w K mg base ["place", "many", "found", "turn"] "_law_power" (defScope s__law_power) f cdv A outer s H E0).nox.A.guards = some [] := hg0
    have hr : Room 2 (cxOf CX0 P w K mg base ["place", "many", "found", "turn"] "_law_power" (defScope s__law_power) f cdv A outer s H E0).nox.A := hr0
    have hu := hr.units
    have hu1 := room65 hr
    have nd := sc__law_power.nd
    exact jss_cons (js_set (ps_set (i := 2) nd rfl (by first | exact Or.inl rfl | exact Or.inr rfl) (je_tup (jes_cons (je_int) (jes_cons (je_int) (jes_nil))))))
      (jss_cons (js_for PassesOwn.never rfl (ji_range1 (pi_range1 (by rfl) T.n_range (jes_cons (je_var 1 (pv 1)) (jes_nil))) (len_esC fun _ _ h => len_es0 h)) (vs := [3]) (jg_name (pg_name (i := 3) nd rfl (by first | exact Or.inl rfl | exact Or.inr rfl))) (jss_cons (js_set (ps_set (i := 2) nd rfl (by first | exact Or.inl rfl | exact Or.inr rfl) (je_ok (ok__law_times T) hg hr (by rfl) (jes_cons (je_var 2 (pv 2)) (jes_cons (je_var 0 (pv 0)) (jes_nil))))))
      (jss_nil)))
      (jss_cons (js_ret (je_var 2 (pv 2)))
      (jss_nil))))
theorem sc_line_is_right : FnScope ["value", "most", "one"] ["value", "most"] (defScope s_line_is_right) := ⟨rfl, rfl, rfl, by decide +kernel, rfl, by decide +kernel, by decide +kernel⟩
theorem ok_line_is_right (T : Txt K mg) : Ok P w K mg base 4 "line_is_right" "line_is_right" (defArgs s_line_is_right) (defBody s_line_is_right) (defScope s_line_is_right) ["value", "most"] (spD K 2 g_line_is_right) :=
  mkD (N := ["value", "most", "one"]) T.a_line_is_right sc_line_is_right 2 rfl (fun _ _ _ _ _ _ us hl => match us, hl with | [_, _], _ => rfl) (fun f cdv A outer s H hg0 hr0 => by
    have hg : (cxOf CX0 P w K mg base ["value", "most", "one"] "line_is_right" (defScope s_line_is_right) f cdv A outer s H E0).nox.A.guards = some [] := hg0
    have hr : Room 3 (cxOf CX0 P w K mg base ["value", "most", "one"] "line_is_right" (defScope s_line_is_right) f cdv A outer s H E0).nox.A := hr0
    have hu := hr.units
    have hu1 := room65 hr
    have nd := sc_line_is_right.nd
    exact jss_cons (js_ret (je_and (je_ok (ok_is_list T) hg hr (by rfl) (jes_cons (je_var 0 (pv 0)) (jes_nil))) (je_and (je_cmp op_le pr_le (jp_of (je_fn pr_len (pe_callB cr_lenAll (by rfl) T.n_len PySem.boot_len (jps_cons (jp_var 0 (pv 0)) (jps_nil))))) (jp_var 1 (pv 1))) (je_one (je_fn pr_all (pe_callB (cr_all rfl) (by rfl) T.n_all (by decide +kernel) (jps_cons (jp_of (je_fz (jn_lc (own := [("one", 2)]) rfl nd (ji_seq (je_var 0 (pv 0))) (blkOk_by (N := ["value", "most", "one"]) (sc := defScope s_line_is_right) (own := [("one", 2)]) (by decide +kernel)) (fun _ _ _ _ _ => jg_name (pg_name (i := 2) nd rfl (by first | exact Or.inl rfl | exact Or.inr rfl))) (fun _ _ _ _ _ => jt_yes) (fun _ _ _ _ _ => je_ok (ok_is_number T) hg hr (by rfl) (jes_cons (je_var 2 (pv 2)) (jes_nil)))))) (jps_nil))))))))
      (jss_nil))
theorem sc_difference_by : FnScope ["points", "point"] ["points"] (defScope s_difference_by) := ⟨rfl, rfl, rfl, by decide +kernel, rfl, by decide +kernel, by decide +kernel⟩
theorem ok_difference_by (T : Txt K mg) : Ok P w K mg base 4 "difference_by" "difference_by" (defArgs s_difference_by) (defBody s_difference_by) (defScope s_difference_by) ["points"] (spD K 1 g_difference_by) :=
  mkD (N := ["points", "point"]) T.a_difference_by sc_difference_by 1 rfl (fun _ _ _ _ _ _ us hl => match us, hl with | [_], _ => rfl) (fun f cdv A outer s H hg0 hr0 => by
    have hg : (cxOf CX0 P w K mg base ["points", "point"] "difference_by" (defScope s_difference_by) f cdv A outer s H E0).nox.A.guards = some [] := hg0
    have hr : Room 3 (cxOf CX0 P w K mg base ["points", "point"] "difference_by" (defScope s_difference_by) f cdv A outer s H E0).nox.A := hr0
    have hu := hr.units
    have hu1 := room65 hr
    have nd := sc_difference_by.nd
    exact jss_cons (js_ret (je_ok (ok_r_dot T) hg hr (by rfl) (jes_cons (je_ok (ok_numbers_by T) hg hr (by rfl) (jes_cons (je_fz (jn_lc (own := [("point", 1)]) rfl nd (ji_seq (je_var 0 (pv 0))) (blkOk_by (N := ["points", "point"]) (sc := defScope s_difference_by) (own := [("point", 1)]) (by decide +kernel)) (fun _ _ _ _ _ => jg_name (pg_name (i := 1) nd rfl (by first | exact Or.inl rfl | exact Or.inr rfl))) (fun _ _ _ _ _ => jt_yes) (fun _ _ _ _ _ => je_ix ix_seq pr_ix (jp_var 1 (pv 1)) (jp_of (je_int))))) (jes_nil))) (jes_cons (je_fz (jn_lc (own := [("point", 1)]) rfl nd (ji_seq (je_var 0 (pv 0))) (blkOk_by (N := ["points", "point"]) (sc := defScope s_difference_by) (own := [("point", 1)]) (by decide +kernel)) (fun _ _ _ _ _ => jg_name (pg_name (i := 1) nd rfl (by first | exact Or.inl rfl | exact Or.inr rfl))) (fun _ _ _ _ _ => jt_yes) (fun _ _ _ _ _ => je_ix ix_seq pr_ix (jp_var 1 (pv 1)) (jp_of (je_int))))) (jes_nil)))))
      (jss_nil))
theorem sc_point_is_right : FnScope ["value", "one"] ["value"] (defScope s_point_is_right) := ⟨rfl, rfl, rfl, by decide +kernel, rfl, by decide +kernel, by decide +kernel⟩
theorem ok_point_is_right (T : Txt K mg) : Ok P w K mg base 4 "point_is_right" "point_is_right" (defArgs s_point_is_right) (defBody s_point_is_right) (defScope s_point_is_right) ["value"] (spD K 1 g_point_is_right) :=
  mkD (N := ["value", "one"]) T.a_point_is_right sc_point_is_right 1 rfl (fun _ _ _ _ _ _ us hl => match us, hl with | [_], _ => rfl) (fun f cdv A outer s H hg0 hr0 => by
    have hg : (cxOf CX0 P w K mg base ["value", "one"] "point_is_right" (defScope s_point_is_right) f cdv A outer s H E0).nox.A.guards = some [] := hg0
    have hr : Room 3 (cxOf CX0 P w K mg base ["value", "one"] "point_is_right" (defScope s_point_is_right) f cdv A outer s H E0).nox.A := hr0
    have hu := hr.units
    have hu1 := room65 hr
    have nd := sc_point_is_right.nd
    exact jss_cons (js_ret (je_and (je_isi1 .tuple (pe_callB call_isi (by rfl) T.n_isinstance (by decide +kernel) (pa_cons (jp_var 0 (pv 0)) (pa_cons (pe_ty (by rfl) T.n_tuple (by decide +kernel)) pa_nil)))) (je_and (je_cmp (op_eqA hu) pr_eq (jp_of (je_fn pr_len (pe_callB cr_lenAll (by rfl) T.n_len PySem.boot_len (jps_cons (jp_var 0 (pv 0)) (jps_nil))))) (jp_of (je_int))) (je_one (je_fn pr_all (pe_callB (cr_all rfl) (by rfl) T.n_all (by decide +kernel) (jps_cons (jp_of (je_fz (jn_lc (own := [("one", 1)]) rfl nd (ji_seq (je_var 0 (pv 0))) (blkOk_by (N := ["value", "one"]) (sc := defScope s_point_is_right) (own := [("one", 1)]) (by decide +kernel)) (fun _ _ _ _ _ => jg_name (pg_name (i := 1) nd rfl (by first | exact Or.inl rfl | exact Or.inr rfl))) (fun _ _ _ _ _ => jt_yes) (fun _ _ _ _ _ => je_ok (ok_is_number T) hg hr (by rfl) (jes_cons (je_var 1 (pv 1)) (jes_nil)))))) (jps_nil))))))))
      (jss_nil))
theorem sc_do_numbers_rise : FnScope ["numbers", "some", "one", "other"] ["numbers"] (defScope s_do_numbers_rise) := ⟨rfl, rfl, rfl, by decide +kernel, rfl, by decide +kernel, by decide +kernel⟩
theorem ok_do_numbers_rise (T : Txt K mg) : Ok P w K mg base 4 "do_numbers_rise" "do_numbers_rise" (defArgs s_do_numbers_rise) (defBody s_do_numbers_rise) (defScope s_do_numbers_rise) ["numbers"] (spD K 1 g_do_numbers_rise) :=
  mkD (N := ["numbers", "some", "one", "other"]) T.a_do_numbers_rise sc_do_numbers_rise 1 rfl (fun _ _ _ _ _ _ us hl => match us, hl with | [_], _ => rfl) (fun f cdv A outer s H hg0 hr0 => by
    have hg : (cxOf CX0 P w K mg base ["numbers", "some", "one", "other"] "do_numbers_rise" (defScope s_do_numbers_rise) f cdv A outer s H E0).nox.A.guards = some [] := hg0
    have hr : Room 3 (cxOf CX0 P w K mg base ["numbers", "some", "one", "other"] "do_numbers_rise" (defScope s_do_numbers_rise) f cdv A outer s H E0).nox.A := hr0
    have hu := hr.units
    have hu1 := room65 hr
    have nd := sc_do_numbers_rise.nd
    exact jss_cons (js_set (ps_set (i := 1) nd rfl (by first | exact Or.inl rfl | exact Or.inr rfl) (je_ok (ok_pairs_of T) hg hr (by rfl) (jes_cons (je_var 0 (pv 0)) (jes_nil)))))
      (jss_cons (js_ret (je_fn pr_all (pe_callB (cr_all rfl) (by rfl) T.n_all (by decide +kernel) (jps_cons (jp_of (je_fz (jn_lc (own := [("one", 2), ("other", 3)]) rfl nd (ji_zip (pi_zipM (by rfl) T.n_zip (jes_cons (je_var 1 (pv 1)) (jes_cons (je_sl sl_all pr_sl (jp_var 1 (pv 1)) (jo_some (je_int)) (jo_none)) (jes_nil))))) (blkOk_by (N := ["numbers", "some", "one", "other"]) (sc := defScope s_do_numbers_rise) (own := [("one", 2), ("other", 3)]) (by decide +kernel)) (fun _ _ _ _ _ => jg_tup rfl (jgs_cons (jg_name (pg_name (i := 2) nd rfl (by first | exact Or.inl rfl | exact Or.inr rfl))) (jgs_cons (jg_name (pg_name (i := 3) nd rfl (by first | exact Or.inl rfl | exact Or.inr rfl))) (jgs_nil)))) (fun _ _ _ _ _ => jt_yes) (fun _ _ _ _ _ => je_ok (ok_r_less T) hg hr (by rfl) (jes_cons (je_var 2 (pv 2)) (jes_cons (je_var 3 (pv 3)) (jes_nil))))))) (jps_nil)))))
      (jss_nil)))
theorem sc_spot_of : FnScope ["spot"] ["spot"] (defScope s_spot_of) := ⟨rfl, rfl, rfl, by decide +kernel, rfl, by decide +kernel, by decide +kernel⟩
theorem ok_spot_of (T : Txt K mg) : Ok P w K mg base 4 "spot_of" "spot_of" (defArgs s_spot_of) (defBody s_spot_of) (defScope s_spot_of) ["spot"] (spD K 1 g_spot_of) :=
  mkD (N := ["spot"]) T.a_spot_of sc_spot_of 1 rfl (fun _ _ _ _ _ _ us hl => match us, hl with | [_], _ => rfl) (fun f cdv A outer s H hg0 hr0 => by
    have hg : (cxOf CX0 P w K mg base ["spot"] "spot_of" (defScope s_spot_of) f cdv A outer s H E0).nox.A.guards = some [] := hg0
    have hr : Room 3 (cxOf CX0 P w K mg base ["spot"] "spot_of" (defScope s_spot_of) f cdv A outer s H E0).nox.A := hr0
    have hu := hr.units
    have hu1 := room65 hr
    have nd := sc_spot_of.nd
    exact jss_cons (js_if (jt_not (jt_truth (jp_of (je_ok (ok_is_number T) hg hr (by rfl) (jes_cons (je_var 0 (pv 0)) (jes_nil)))))) (jss_cons (js_never)
      (jss_nil)) (jss_nil))
      (jss_cons (js_ret (je_ok (ok_pair_of T) hg hr (by rfl) (jes_cons (je_var 0 (pv 0)) (jes_nil))))
      (jss_nil)))
theorem sc__law_squares : FnScope ["line"] ["line"] (defScope s__law_squares) := ⟨rfl, rfl, rfl, by decide +kernel, rfl, by decide +kernel, by decide +kernel⟩
theorem ok__law_squares (T : Txt K mg) : Ok P w K mg base 4 "_law_squares" "_law_squares" (defArgs s__law_squares) (defBody s__law_squares) (defScope s__law_squares) ["line"] (spD K 1 g__law_squares) :=
  mkD (N := ["line"]) T.a__law_squares sc__law_squares 1 rfl (fun _ _ _ _ _ _ us hl => match us, hl with | [_], _ => rfl) (fun f cdv A outer s H hg0 hr0 => by
    have hg : (cxOf CX0 P w K mg base ["line"] "_law_squares" (defScope s__law_squares) f cdv A outer s H E0).nox.A.guards = some [] := hg0
    have hr : Room 3 (cxOf CX0 P w K mg base ["line"] "_law_squares" (defScope s__law_squares) f cdv A outer s H E0).nox.A := hr0
    have hu := hr.units
    have hu1 := room65 hr
    have nd := sc__law_squares.nd
    exact jss_cons (js_ret (je_ok (ok__law_dot T) hg hr (by rfl) (jes_cons (je_var 0 (pv 0)) (jes_cons (je_var 0 (pv 0)) (jes_nil)))))
      (jss_nil))
theorem sc__law_places : FnScope ["pot", "many", "found", "here", "at"] ["pot", "many"] (defScope s__law_places) := ⟨rfl, rfl, rfl, by decide +kernel, rfl, by decide +kernel, by decide +kernel⟩
theorem ok__law_places (T : Txt K mg) : Ok P w K mg base 4 "_law_places" "_law_places" (defArgs s__law_places) (defBody s__law_places) (defScope s__law_places) ["pot", "many"] (spL K 1 g__law_places) :=
  mkL (N := ["pot", "many", "found", "here", "at"]) T.a__law_places sc__law_places 1 rfl (fun _ _ _ _ _ _ us hl => match us, hl with | [_, _], _ => rfl) (fun f cdv A outer s H hg0 hr0 => by
    have hg : (cxOf CX0 P w K mg base ["pot", "many", "found", "here", "at"] "_law_places" (defScope s__law_places) f cdv A outer s H E0).nox.A.guards = some [] := hg0
    have hr : Room 3 (cxOf CX0 P w K mg base ["pot", "many", "found", "here", "at"] "_law_places" (defScope s__law_places) f cdv A outer s H E0).nox.A := hr0
    have hu := hr.units
    have hu1 := room65 hr
    have nd := sc__law_places.nd
    exact jss_cons (js_par2 (ps_par (i := 2) (j := 3) rfl nd rfl rfl (by decide) rfl rfl (jrs_N (jn_lst (jes_nil)) (jrs_E (je_ok (ok__law_pair T) hg hr (by rfl) (jes_cons (je_okL 0 (ok__law_small T) hg hr (by rfl) (pv 0) (jes_nil)) (jes_nil))) (jrs_nil))) (by rfl)))
      (jss_cons (js_for PassesOwn.never rfl (ji_range1 (pi_range1 (by rfl) T.n_range (jes_cons (je_var 1 (pv 1)) (jes_nil))) (len_esC fun _ _ h => len_es0 h)) (vs := [4]) (jg_name (pg_name (i := 4) nd rfl (by first | exact Or.inl rfl | exact Or.inr rfl))) (jss_cons (js_expr (je_meth 2 pr_app (pe_bm PySem.F.plainAttrs_list PySem.F.slot_list_append PySem.F.type_list_append (mt_append) (pv 2) (jes_cons (je_if (jt_w (jw_and (jt_cmp (op_eqA hu) pr_eq (jp_of (je_ix ix_seq pr_ix (jp_var 3 (pv 3)) (jp_of (je_int)))) (jp_of (je_int))) (jw_and1 (jt_cmp op_gt pr_gt (jp_of (je_okL 0 (ok__law_draw T) hg hr (by rfl) (pv 0) (jes_cons (je_int) (jes_nil)))) (jp_of (je_int)))))) (je_ix ix_seq pr_ix (jp_var 3 (pv 3)) (jp_of (je_int))) (je_var 3 (pv 3))) (jes_nil)))))
      (jss_cons (js_set (ps_set (i := 3) nd rfl (by first | exact Or.inl rfl | exact Or.inr rfl) (je_ok (ok__law_plus T) hg hr (by rfl) (jes_cons (je_var 3 (pv 3)) (jes_cons (je_okL 0 (ok__law_pick T) hg hr (by rfl) (pv 0) (jes_cons (je_fz (jn_lst (jes_cons (je_tup (jes_cons (je_int) (jes_cons (je_int) (jes_nil)))) (jes_cons (je_tup (jes_cons (je_int) (jes_cons (je_int) (jes_nil)))) (jes_cons (je_tup (jes_cons (je_int) (jes_cons (je_int) (jes_nil)))) (jes_cons (je_tup (jes_cons (je_int) (jes_cons (je_int) (jes_nil)))) (jes_cons (je_tup (jes_cons (je_int) (jes_cons (je_int) (jes_nil)))) (jes_cons (je_tup (jes_cons (je_int) (jes_cons (je_int) (jes_nil)))) (jes_nil))))))))) (jes_nil))) (jes_nil))))))
      (jss_nil))))
      (jss_cons (js_retV 2 (pv 2))
      (jss_nil))))
theorem sc__law_worth : FnScope ["coefficients", "place", "at", "one"] ["coefficients", "place"] (defScope s__law_worth) := ⟨rfl, rfl, rfl, by decide +kernel, rfl, by decide +kernel, by decide +kernel⟩
theorem ok__law_worth (T : Txt K mg) : Ok P w K mg base 4 "_law_worth" "_law_worth" (defArgs s__law_worth) (defBody s__law_worth) (defScope s__law_worth) ["coefficients", "place"] (spD K 2 g__law_worth) :=
  mkD (N := ["coefficients", "place", "at", "one"]) T.a__law_worth sc__law_worth 2 rfl (fun _ _ _ _ _ _ us hl => match us, hl with | [_, _], _ => rfl) (fun f cdv A outer s H hg0 hr0 => by
    have hg : (cxOf CX0 P w K mg base ["coefficients", "place", "at", "one"] "_law_worth" (defScope s__law_worth) f cdv A outer s H E0).nox.A.guards = some [] := hg0
    have hr : Room 3 (cxOf CX0 P w K mg base ["coefficients", "place", "at", "one"] "_law_worth" (defScope s__law_worth) f cdv A outer s H E0).nox.A := hr0
    have hu := hr.units
    have hu1 := room65 hr
    have nd := sc__law_worth.nd
    exact jss_cons (js_ret (je_ok (ok__law_total T) hg hr (by rfl) (jes_cons (je_fz (jn_lc (own := [("at", 2), ("one", 3)]) rfl nd (ji_enum (pi_enumM (by rfl) T.n_enumerate (jes_cons (je_var 0 (pv 0)) (jes_nil)))) (blkOk_by (N := ["coefficients", "place", "at", "one"]) (sc := defScope s__law_worth) (own := [("at", 2), ("one", 3)]) (by decide +kernel)) (fun _ _ _ _ _ => jg_tup rfl (jgs_cons (jg_name (pg_name (i := 2) nd rfl (by first | exact Or.inl rfl | exact Or.inr rfl))) (jgs_cons (jg_name (pg_name (i := 3) nd rfl (by first | exact Or.inl rfl | exact Or.inr rfl))) (jgs_nil)))) (fun _ _ _ _ _ => jt_yes) (fun _ _ _ _ _ => je_ok (ok__law_times T) hg hr (by rfl) (jes_cons (je_var 3 (pv 3)) (jes_cons (je_ok (ok__law_power T) hg hr (by rfl) (jes_cons (je_var 1 (pv 1)) (jes_cons (je_var 2 (pv 2)) (jes_nil)))) (jes_nil)))))) (jes_nil))))
      (jss_nil))
theorem sc_law_by : FnScope ["points", "found", "front", "many", "number", "one", "more"] ["points"] (defScope s_law_by) := ⟨rfl, rfl, rfl, by decide +kernel, rfl, by decide +kernel, by decide +kernel⟩
theorem ok_law_by (T : Txt K mg) : Ok P w K mg base 5 "law_by" "law_by" (defArgs s_law_by) (defBody s_law_by) (defScope s_law_by) ["points"] (spD K 1 g_law_by) :=
  mkD (N := ["points", "found", "front", "many", "number", "one", "more"]) T.a_law_by sc_law_by 1 rfl (fun _ _ _ _ _ _ us hl => match us, hl with | [_], _ => rfl) (fun f cdv A outer s H hg0 hr0 => by
    have hg : (cxOf CX0 P w K mg base ["points", "found", "front", "many", "number", "one", "more"] "law_by" (defScope s_law_by) f cdv A outer s H E0).nox.A.guards = some [] := hg0
    have hr : Room 4 (cxOf CX0 P w K mg base ["points", "found", "front", "many", "number", "one", "more"] "law_by" (defScope s_law_by) f cdv A outer s H E0).nox.A := hr0
    have hu := hr.units
    have hu1 := room65 hr
    have nd := sc_law_by.nd
    exact jss_cons (js_par2 (ps_par (i := 1) (j := 2) rfl nd rfl rfl (by decide) rfl rfl (jrs_E (je_fz (jn_lst (jes_nil))) (jrs_E (je_fz (jn_lst (jes_cons (je_con (by rfl) T.c_ONE) (jes_nil)))) (jrs_nil))) (by rfl)))
      (jss_cons (js_for PassesOwn.never rfl (ji_range2 (pi_range2 (by rfl) T.n_range (jes_cons (je_int) (jes_cons (je_op op_addAll pr_add (jp_of (je_fn pr_len (pe_callB cr_lenAll (by rfl) T.n_len PySem.boot_len (jps_cons (jp_var 0 (pv 0)) (jps_nil))))) (jp_of (je_int))) (jes_nil)))) (len_esC (len_esC fun _ _ h => len_es0 h))) (vs := [3]) (jg_name (pg_name (i := 3) nd rfl (by first | exact Or.inl rfl | exact Or.inr rfl))) (jss_cons (js_set (ps_set (i := 4) nd rfl (by first | exact Or.inl rfl | exact Or.inr rfl) (je_ok (ok_difference_by T) hg hr (by rfl) (jes_cons (je_sl sl_all pr_sl (jp_var 0 (pv 0)) (jo_none) (jo_some (je_var 3 (pv 3)))) (jes_nil)))))
      (jss_cons (js_set (ps_fzN (ps_lcN (i := 1) (own := [("one", 5), ("more", 6)]) rfl nd rfl rfl (sw_true rfl rfl rfl (by decide +kernel)) (ji_zip (pi_zipM (by rfl) T.n_zip (jes_cons (je_op op_addAll pr_add (jp_var 1 (pv 1)) (jp_of (je_fz (jn_lst (jes_cons (je_con (by rfl) T.c_NOUGHT) (jes_nil)))))) (jes_cons (je_var 2 (pv 2)) (jes_nil))))) (blkOk_by (N := ["points", "found", "front", "many", "number", "one", "more"]) (sc := defScope s_law_by) (own := [("one", 5), ("more", 6)]) (by decide +kernel)) (fun _ _ _ _ _ => jg_tup rfl (jgs_cons (jg_name (pg_name (i := 5) nd rfl (by first | exact Or.inl rfl | exact Or.inr rfl))) (jgs_cons (jg_name (pg_name (i := 6) nd rfl (by first | exact Or.inl rfl | exact Or.inr rfl))) (jgs_nil)))) (fun _ _ _ _ _ => jt_yes) (fun _ _ _ _ _ => je_ok (ok_r_plus T) hg hr (by rfl) (jes_cons (je_var 5 (pv 5)) (jes_cons (je_ok (ok_r_times T) hg hr (by rfl) (jes_cons (je_var 4 (pv 4)) (jes_cons (je_var 6 (pv 6)) (jes_nil)))) (jes_nil)))))))
      (jss_cons (js_set (ps_set (i := 2) nd rfl (by first | exact Or.inl rfl | exact Or.inr rfl) (je_ok (ok_longer_by T) hg hr (by rfl) (jes_cons (je_var 2 (pv 2)) (jes_cons (je_ix ix_seq pr_ix (jp_of (je_ix ix_seq pr_ix (jp_var 0 (pv 0)) (jp_of (je_op op_sub pr_sub (jp_var 3 (pv 3)) (jp_of (je_int)))))) (jp_of (je_int))) (jes_nil))))))
      (jss_nil)))))
      (jss_cons (js_ret (je_var 1 (pv 1)))
      (jss_nil))))
theorem sc_points_are_right : FnScope ["value", "one", "point"] ["value"] (defScope s_points_are_right) := ⟨rfl, rfl, rfl, by decide +kernel, rfl, by decide +kernel, by decide +kernel⟩
theorem ok_points_are_right (T : Txt K mg) : Ok P w K mg base 5 "points_are_right" "points_are_right" (defArgs s_points_are_right) (defBody s_points_are_right) (defScope s_points_are_right) ["value"] (spD K 1 g_points_are_right) :=
  mkD (N := ["value", "one", "point"]) T.a_points_are_right sc_points_are_right 1 rfl (fun _ _ _ _ _ _ us hl => match us, hl with | [_], _ => rfl) (fun f cdv A outer s H hg0 hr0 => by
    have hg : (cxOf CX0 P w K mg base ["value", "one", "point"] "points_are_right" (defScope s_points_are_right) f cdv A outer s H E0).nox.A.guards = some [] := hg0
    have hr : Room 4 (cxOf CX0 P w K mg base ["value", "one", "point"] "points_are_right" (defScope s_points_are_right) f cdv A outer s H E0).nox.A := hr0
    have hu := hr.units
    have hu1 := room65 hr
    have nd := sc_points_are_right.nd
    exact jss_cons (js_if (jt_w (jw_or (jt_not (jt_truth (jp_of (je_ok (ok_is_list T) hg hr (by rfl) (jes_cons (je_var 0 (pv 0)) (jes_nil)))))) (jw_or (jt_not (jt_chain op_le pr_le op_le pr_le (jp_of (je_int)) (jp_of (je_fn pr_len (pe_callB cr_lenAll (by rfl) T.n_len PySem.boot_len (jps_cons (jp_var 0 (pv 0)) (jps_nil))))) (jp_of (je_con (by rfl) T.c_MOST_POINTS)))) (jw_or1 (jt_not (jt_truth (jp_of (je_fn pr_all (pe_callB (cr_all rfl) (by rfl) T.n_all (by decide +kernel) (jps_cons (jp_of (je_fz (jn_lc (own := [("one", 1)]) rfl nd (ji_seq (je_var 0 (pv 0))) (blkOk_by (N := ["value", "one", "point"]) (sc := defScope s_points_are_right) (own := [("one", 1)]) (by decide +kernel)) (fun _ _ _ _ _ => jg_name (pg_name (i := 1) nd rfl (by first | exact Or.inl rfl | exact Or.inr rfl))) (fun _ _ _ _ _ => jt_yes) (fun _ _ _ _ _ => je_ok (ok_point_is_right T) hg hr (by rfl) (jes_cons (je_var 1 (pv 1)) (jes_nil)))))) (jps_nil))))))))))) (jss_cons (js_ret (je_bl))
      (jss_nil)) (jss_nil))
      (jss_cons (js_ret (je_ok (ok_do_numbers_rise T) hg hr (by rfl) (jes_cons (je_fz (jn_lc (own := [("point", 2)]) rfl nd (ji_seq (je_var 0 (pv 0))) (blkOk_by (N := ["value", "one", "point"]) (sc := defScope s_points_are_right) (own := [("point", 2)]) (by decide +kernel)) (fun _ _ _ _ _ => jg_name (pg_name (i := 2) nd rfl (by first | exact Or.inl rfl | exact Or.inr rfl))) (fun _ _ _ _ _ => jt_yes) (fun _ _ _ _ _ => je_ix ix_seq pr_ix (jp_var 2 (pv 2)) (jp_of (je_int))))) (jes_nil))))
      (jss_nil)))
theorem sc_difference_numbers : FnScope ["places"] ["places"] (defScope s_difference_numbers) := ⟨rfl, rfl, rfl, by decide +kernel, rfl, by decide +kernel, by decide +kernel⟩
theorem ok_difference_numbers (T : Txt K mg) : Ok P w K mg base 5 "difference_numbers" "difference_numbers" (defArgs s_difference_numbers) (defBody s_difference_numbers) (defScope s_difference_numbers) ["places"] (spD K 1 g_difference_numbers) :=
  mkD (N := ["places"]) T.a_difference_numbers sc_difference_numbers 1 rfl (fun _ _ _ _ _ _ us hl => match us, hl with | [_], _ => rfl) (fun f cdv A outer s H hg0 hr0 => by
    have hg : (cxOf CX0 P w K mg base ["places"] "difference_numbers" (defScope s_difference_numbers) f cdv A outer s H E0).nox.A.guards = some [] := hg0
    have hr : Room 4 (cxOf CX0 P w K mg base ["places"] "difference_numbers" (defScope s_difference_numbers) f cdv A outer s H E0).nox.A := hr0
    have hu := hr.units
    have hu1 := room65 hr
    have nd := sc_difference_numbers.nd
    exact jss_cons (js_if (jt_w (jw_or (jt_not (jt_truth (jp_of (je_ok (ok_line_is_right T) hg hr (by rfl) (jes_cons (je_var 0 (pv 0)) (jes_cons (je_con (by rfl) T.c_MOST_POINTS) (jes_nil))))))) (jw_or (jt_cmp (op_eqA hu) pr_eq (jp_of (je_fn pr_len (pe_callB cr_lenAll (by rfl) T.n_len PySem.boot_len (jps_cons (jp_var 0 (pv 0)) (jps_nil))))) (jp_of (je_int))) (jw_or1 (jt_not (jt_truth (jp_of (je_ok (ok_do_numbers_rise T) hg hr (by rfl) (jes_cons (je_var 0 (pv 0)) (jes_nil)))))))))) (jss_cons (js_never)
      (jss_nil)) (jss_nil))
      (jss_cons (js_retN (jn_ok (ok_numbers_by T) hg hr (by rfl) (jes_cons (je_ok (ok_pairs_of T) hg hr (by rfl) (jes_cons (je_var 0 (pv 0)) (jes_nil))) (jes_nil))))
      (jss_nil)))
theorem sc_power_at : FnScope ["coefficients", "spot"] ["coefficients", "spot"] (defScope s_power_at) := ⟨rfl, rfl, rfl, by decide +kernel, rfl, by decide +kernel, by decide +kernel⟩
theorem ok_power_at (T : Txt K mg) : Ok P w K mg base 5 "power_at" "power_at" (defArgs s_power_at) (defBody s_power_at) (defScope s_power_at) ["coefficients", "spot"] (spD K 2 g_power_at) :=
  mkD (N := ["coefficients", "spot"]) T.a_power_at sc_power_at 2 rfl (fun _ _ _ _ _ _ us hl => match us, hl with | [_, _], _ => rfl) (fun f cdv A outer s H hg0 hr0 => by
    have hg : (cxOf CX0 P w K mg base ["coefficients", "spot"] "power_at" (defScope s_power_at) f cdv A outer s H E0).nox.A.guards = some [] := hg0
    have hr : Room 4 (cxOf CX0 P w K mg base ["coefficients", "spot"] "power_at" (defScope s_power_at) f cdv A outer s H E0).nox.A := hr0
    have hu := hr.units
    have hu1 := room65 hr
    have nd := sc_power_at.nd
    exact jss_cons (js_if (jt_w (jw_or (jt_not (jt_truth (jp_of (je_ok (ok_line_is_right T) hg hr (by rfl) (jes_cons (je_var 0 (pv 0)) (jes_cons (je_con (by rfl) T.c_MOST_POINTS) (jes_nil))))))) (jw_or1 (jt_cmp (op_eqA hu) pr_eq (jp_of (je_fn pr_len (pe_callB cr_lenAll (by rfl) T.n_len PySem.boot_len (jps_cons (jp_var 0 (pv 0)) (jps_nil))))) (jp_of (je_int)))))) (jss_cons (js_never)
      (jss_nil)) (jss_nil))
      (jss_cons (js_ret (je_ok (ok_power_by T) hg hr (by rfl) (jes_cons (je_ok (ok_pairs_of T) hg hr (by rfl) (jes_cons (je_var 0 (pv 0)) (jes_nil))) (jes_cons (je_ok (ok_spot_of T) hg hr (by rfl) (jes_cons (je_var 1 (pv 1)) (jes_nil))) (jes_nil)))))
      (jss_nil)))
theorem sc_points_of : FnScope ["points", "place", "worth"] ["points"] (defScope s_points_of) := ⟨rfl, rfl, rfl, by decide +kernel, rfl, by decide +kernel, by decide +kernel⟩
theorem ok_points_of (T : Txt K mg) : Ok P w K mg base 6 "points_of" "points_of" (defArgs s_points_of) (defBody s_points_of) (defScope s_points_of) ["points"] (spD K 1 g_points_of) :=
  mkD (N := ["points", "place", "worth"]) T.a_points_of sc_points_of 1 rfl (fun _ _ _ _ _ _ us hl => match us, hl with | [_], _ => rfl) (fun f cdv A outer s H hg0 hr0 => by
    have hg : (cxOf CX0 P w K mg base ["points", "place", "worth"] "points_of" (defScope s_points_of) f cdv A outer s H E0).nox.A.guards = some [] := hg0
    have hr : Room 5 (cxOf CX0 P w K mg base ["points", "place", "worth"] "points_of" (defScope s_points_of) f cdv A outer s H E0).nox.A := hr0
    have hu := hr.units
    have hu1 := room65 hr
    have nd := sc_points_of.nd
    exact jss_cons (js_if (jt_not (jt_truth (jp_of (je_ok (ok_points_are_right T) hg hr (by rfl) (jes_cons (je_var 0 (pv 0)) (jes_nil)))))) (jss_cons (js_never)
      (jss_nil)) (jss_nil))
      (jss_cons (js_retN (jn_lc (own := [("place", 1), ("worth", 2)]) rfl nd (ji_seq (je_var 0 (pv 0))) (blkOk_by (N := ["points", "place", "worth"]) (sc := defScope s_points_of) (own := [("place", 1), ("worth", 2)]) (by decide +kernel)) (fun _ _ _ _ _ => jg_tup rfl (jgs_cons (jg_name (pg_name (i := 1) nd rfl (by first | exact Or.inl rfl | exact Or.inr rfl))) (jgs_cons (jg_name (pg_name (i := 2) nd rfl (by first | exact Or.inl rfl | exact Or.inr rfl))) (jgs_nil)))) (fun _ _ _ _ _ => jt_yes) (fun _ _ _ _ _ => je_tup (jes_cons (je_ok (ok_pair_of T) hg hr (by rfl) (jes_cons (je_var 1 (pv 1)) (jes_nil))) (jes_cons (je_ok (ok_pair_of T) hg hr (by rfl) (jes_cons (je_var 2 (pv 2)) (jes_nil))) (jes_nil))))))
      (jss_nil)))
theorem sc_difference : FnScope ["points"] ["points"] (defScope s_difference) := ⟨rfl, rfl, rfl, by decide +kernel, rfl, by decide +kernel, by decide +kernel⟩
theorem ok_difference (T : Txt K mg) : Ok P w K mg base 7 "difference" "difference" (defArgs s_difference) (defBody s_difference) (defScope s_difference) ["points"] (spD K 1 g_difference) :=
  mkD (N := ["points"]) T.a_difference sc_difference 1 rfl (fun _ _ _ _ _ _ us hl => match us, hl with | [_], _ => rfl) (fun f cdv A outer s H hg0 hr0 => by
    have hg : (cxOf CX0 P w K mg base ["points"] "difference" (defScope s_difference) f cdv A outer s H E0).nox.A.guards = some [] := hg0
    have hr : Room 6 (cxOf CX0 P w K mg base ["points"] "difference" (defScope s_difference) f cdv A outer s H E0).nox.A := hr0
    have hu := hr.units
    have hu1 := room65 hr
    have nd := sc_difference.nd
    exact jss_cons (js_ret (je_ok (ok_difference_by T) hg hr (by rfl) (jes_cons (je_ok (ok_points_of T) hg hr (by rfl) (jes_cons (je_var 0 (pv 0)) (jes_nil))) (jes_nil))))
      (jss_nil))
theorem sc_power_law : FnScope ["points"] ["points"] (defScope s_power_law) := ⟨rfl, rfl, rfl, by decide +kernel, rfl, by decide +kernel, by decide +kernel⟩
theorem ok_power_law (T : Txt K mg) : Ok P w K mg base 7 "power_law" "power_law" (defArgs s_power_law) (defBody s_power_law) (defScope s_power_law) ["points"] (spD K 1 g_power_law) :=
  mkD (N := ["points"]) T.a_power_law sc_power_law 1 rfl (fun _ _ _ _ _ _ us hl => match us, hl with | [_], _ => rfl) (fun f cdv A outer s H hg0 hr0 => by
    have hg : (cxOf CX0 P w K mg base ["points"] "power_law" (defScope s_power_law) f cdv A outer s H E0).nox.A.guards = some [] := hg0
    have hr : Room 6 (cxOf CX0 P w K mg base ["points"] "power_law" (defScope s_power_law) f cdv A outer s H E0).nox.A := hr0
    have hu := hr.units
    have hu1 := room65 hr
    have nd := sc_power_law.nd
    exact jss_cons (js_ret (je_ok (ok_law_by T) hg hr (by rfl) (jes_cons (je_ok (ok_points_of T) hg hr (by rfl) (jes_cons (je_var 0 (pv 0)) (jes_nil))) (jes_nil))))
      (jss_nil))
theorem sc__law_right : FnScope ["pot", "places", "spots", "many", "drawn", "plain", "numbers", "shown", "told", "signs", "size", "worths", "points", "before", "due", "found", "spot", "worth", "place", "at", "number", "one"] ["pot", "places"] (defScope s__law_right) := ⟨rfl, rfl, rfl, by decide +kernel, rfl, by decide +kernel, by decide +kernel⟩
theorem ok__law_right (T : Txt K mg) : Ok P w K mg base 8 "_law_right" "_law_right" (defArgs s__law_right) (defBody s__law_right) (defScope s__law_right) ["pot", "places"] (spL K 1 g__law_right) :=
  mkL (N := ["pot", "places", "spots", "many", "drawn", "plain", "numbers", "shown", "told", "signs", "size", "worths", "points", "before", "due", "found", "spot", "worth", "place", "at", "number", "one"]) T.a__law_right sc__law_right 1 rfl (fun _ _ _ _ _ _ us hl => match us, hl with | [_, _], _ => rfl) (fun f cdv A outer s H hg0 hr0 => by
    have hg : (cxOf CX0 P w K mg base ["pot", "places", "spots", "many", "drawn", "plain", "numbers", "shown", "told", "signs", "size", "worths", "points", "before", "due", "found", "spot", "worth", "place", "at", "number", "one"] "_law_right" (defScope s__law_right) f cdv A outer s H E0).nox.A.guards = some [] := hg0
    have hr : Room 7 (cxOf CX0 P w K mg base ["pot", "places", "spots", "many", "drawn", "plain", "numbers", "shown", "told", "signs", "size", "worths", "points", "before", "due", "found", "spot", "worth", "place", "at", "number", "one"] "_law_right" (defScope s__law_right) f cdv A outer s H E0).nox.A := hr0
    have hu := hr.units
    have hu1 := room65 hr
    have nd := sc__law_right.nd
    exact jss_cons (js_asg (vs := [2, 3]) (ps_asg (je_tup (jes_cons (je_fz (jn_lc (own := [("place", 18)]) rfl nd (ji_seq (je_var 1 (pv 1))) (blkOk_by (N := ["pot", "places", "spots", "many", "drawn", "plain", "numbers", "shown", "told", "signs", "size", "worths", "points", "before", "due", "found", "spot", "worth", "place", "at", "number", "one"]) (sc := defScope s__law_right) (own := [("place", 18)]) (by decide +kernel)) (fun _ _ _ _ _ => jg_name (pg_name (i := 18) nd rfl (by first | exact Or.inl rfl | exact Or.inr rfl))) (fun _ _ _ _ _ => jt_yes) (fun _ _ _ _ _ => je_ok (ok__law_pair T) hg hr (by rfl) (jes_cons (je_var 18 (pv 18)) (jes_nil))))) (jes_cons (je_fn pr_len (pe_callB cr_lenAll (by rfl) T.n_len PySem.boot_len (jps_cons (jp_var 1 (pv 1)) (jps_nil)))) (jes_nil)))) (jg_tup rfl (jgs_cons (jg_name (pg_name (i := 2) nd rfl (by first | exact Or.inl rfl | exact Or.inr rfl))) (jgs_cons (jg_name (pg_name (i := 3) nd rfl (by first | exact Or.inl rfl | exact Or.inr rfl))) (jgs_nil))))))
      (jss_cons (js_set (ps_fzN (ps_set (i := 4) nd rfl (by first | exact Or.inl rfl | exact Or.inr rfl) (jn_lc (own := [("at", 19)]) rfl nd (ji_range1 (pi_range1 (by rfl) T.n_range (jes_cons (je_var 3 (pv 3)) (jes_nil))) (len_esC fun _ _ h => len_es0 h)) (blkOk_by (N := ["pot", "places", "spots", "many", "drawn", "plain", "numbers", "shown", "told", "signs", "size", "worths", "points", "before", "due", "found", "spot", "worth", "place", "at", "number", "one"]) (sc := defScope s__law_right) (own := [("at", 19)]) (by decide +kernel)) (fun _ _ _ _ _ => jg_name (pg_name (i := 19) nd rfl (by first | exact Or.inl rfl | exact Or.inr rfl))) (fun _ _ _ _ _ => jt_yes) (fun _ _ _ _ _ => je_ok (ok__law_pair T) hg hr (by rfl) (jes_cons (je_okL 0 (ok__law_small T) hg hr (by rfl) (pv 0) (jes_nil)) (jes_nil)))))))
      (jss_cons (js_set (ps_fzN (ps_lcN (i := 5) (own := [("at", 19)]) rfl nd rfl rfl (sw_true rfl rfl rfl (by decide +kernel)) (ji_range1 (pi_range1 (by rfl) T.n_range (jes_cons (je_var 3 (pv 3)) (jes_nil))) (len_esC fun _ _ h => len_es0 h)) (blkOk_by (N := ["pot", "places", "spots", "many", "drawn", "plain", "numbers", "shown", "told", "signs", "size", "worths", "points", "before", "due", "found", "spot", "worth", "place", "at", "number", "one"]) (sc := defScope s__law_right) (own := [("at", 19)]) (by decide +kernel)) (fun _ _ _ _ _ => jg_name (pg_name (i := 19) nd rfl (by first | exact Or.inl rfl | exact Or.inr rfl))) (fun _ _ _ _ _ => jt_yes) (fun _ _ _ _ _ => je_ok (ok__law_pair T) hg hr (by rfl) (jes_cons (je_okL 0 (ok__law_small T) hg hr (by rfl) (pv 0) (jes_nil)) (jes_nil))))))
      (jss_cons (js_par2 (ps_par (i := 6) (j := 7) rfl nd rfl rfl (by decide) rfl rfl (jrs_E (je_ok (ok__law_numbers T) hg hr (by rfl) (jes_cons (je_var 2 (pv 2)) (jes_nil))) (jrs_E (je_fn pr_repr (pe_callB (cr_repr hg hu) (by rfl) T.n_repr (by decide +kernel) (jps_cons (jp_var 1 (pv 1)) (jps_nil)))) (jrs_nil))) (by rfl)))
      (jss_cons (js_setN (ps_set (i := 8) nd rfl (by first | exact Or.inl rfl | exact Or.inr rfl) (jn_ok (ok_difference_numbers T) hg hr (by rfl) (jes_cons (je_var 1 (pv 1)) (jes_nil)))))
      (jss_cons (js_if (jt_lend (jt_cmp (op_neA hu) pr_ne (jp_of (je_fn pr_repr (pe_callB (cr_repr hg hu) (by rfl) T.n_repr (by decide +kernel) (jps_cons (jp_of (je_fz (jn_lst (jes_cons (je_var 8 (pv 8)) (jes_cons (je_okK0 (ks := ["places"]) (ix := [0]) (ok_difference_numbers T) hg hr (by rfl) (fun _ _ _ _ _ _ us ws h1 h2 => match us, ws, h1, h2 with | [], [_], _, _ => rfl) (jk_cons (je_fn pr_tuple (pe_callTy call_tuple_of (by rfl) T.n_tuple (by decide +kernel) (jps_cons (jp_var 1 (pv 1)) (jps_nil)))) (jk_nil))) (jes_nil)))))) (jps_nil))))) (jp_of (je_fn pr_repr (pe_callB (cr_repr hg hu) (by rfl) T.n_repr (by decide +kernel) (jps_cons (jp_of (je_fz (jn_lst (jes_cons (je_var 6 (pv 6)) (jes_cons (je_var 6 (pv 6)) (jes_nil)))))) (jps_nil))))))) (jss_cons (js_ret (je_bl))
      (jss_nil)) (jss_nil))
      (jss_cons (js_expr (je_meth 8 pr_app (pe_bm PySem.F.plainAttrs_list PySem.F.slot_list_append PySem.F.type_list_append (mt_append) (pv 8) (jes_cons (je_non) (jes_nil)))))
      (jss_cons (js_set (ps_fzN (ps_lcN (i := 9) (own := [("number", 20)]) rfl nd rfl rfl (sw_true rfl rfl rfl (by decide +kernel)) (ji_seq (je_var 6 (pv 6))) (blkOk_by (N := ["pot", "places", "spots", "many", "drawn", "plain", "numbers", "shown", "told", "signs", "size", "worths", "points", "before", "due", "found", "spot", "worth", "place", "at", "number", "one"]) (sc := defScope s__law_right) (own := [("number", 20)]) (by decide +kernel)) (fun _ _ _ _ _ => jg_name (pg_name (i := 20) nd rfl (by first | exact Or.inl rfl | exact Or.inr rfl))) (fun _ _ _ _ _ => jt_yes) (fun _ _ _ _ _ => je_cmp op_gt pr_gt (jp_of (je_ix ix_seq pr_ix (jp_var 20 (pv 20)) (jp_of (je_int)))) (jp_of (je_int))))))
      (jss_cons (js_if (jt_cmp (op_neA hu) pr_ne (jp_var 9 (pv 9)) (jp_of (je_fz (jn_lc (own := [("at", 19)]) rfl nd (ji_range1 (pi_range1 (by rfl) T.n_range (jes_cons (je_var 3 (pv 3)) (jes_nil))) (len_esC fun _ _ h => len_es0 h)) (blkOk_by (N := ["pot", "places", "spots", "many", "drawn", "plain", "numbers", "shown", "told", "signs", "size", "worths", "points", "before", "due", "found", "spot", "worth", "place", "at", "number", "one"]) (sc := defScope s__law_right) (own := [("at", 19)]) (by decide +kernel)) (fun _ _ _ _ _ => jg_name (pg_name (i := 19) nd rfl (by first | exact Or.inl rfl | exact Or.inr rfl))) (fun _ _ _ _ _ => jt_yes) (fun _ _ _ _ _ => je_cmp (op_eqA hu) pr_eq (jp_of (je_op op_modN pr_mod (jp_of (je_fn pr_intF (pe_callTy call_int1 (by rfl) T.n_int (by decide +kernel) (jps_cons (jp_of (je_op op_sub pr_sub (jp_var 3 (pv 3)) (jp_var 19 (pv 19)))) (jps_nil))))) (jp_of (je_int)))) (jp_of (je_int))))))) (jss_cons (js_ret (je_bl))
      (jss_nil)) (jss_nil))
      (jss_cons (js_for PassesOwn.never rfl (ji_range1 (pi_range1 (by rfl) T.n_range (jes_cons (je_var 3 (pv 3)) (jes_nil))) (len_esC fun _ _ h => len_es0 h)) (vs := [10]) (jg_name (pg_name (i := 10) nd rfl (by first | exact Or.inl rfl | exact Or.inr rfl))) (jss_cons (js_if (jt_cmp (op_neA hu) pr_ne (jp_of (je_ok (ok__law_dot T) hg hr (by rfl) (jes_cons (je_var 6 (pv 6)) (jes_cons (je_fz (jn_lc (own := [("spot", 16)]) rfl nd (ji_seq (je_var 2 (pv 2))) (blkOk_by (N := ["pot", "places", "spots", "many", "drawn", "plain", "numbers", "shown", "told", "signs", "size", "worths", "points", "before", "due", "found", "spot", "worth", "place", "at", "number", "one"]) (sc := defScope s__law_right) (own := [("spot", 16)]) (by decide +kernel)) (fun _ _ _ _ _ => jg_name (pg_name (i := 16) nd rfl (by first | exact Or.inl rfl | exact Or.inr rfl))) (fun _ _ _ _ _ => jt_yes) (fun _ _ _ _ _ => je_ok (ok__law_power T) hg hr (by rfl) (jes_cons (je_var 16 (pv 16)) (jes_cons (je_var 10 (pv 10)) (jes_nil)))))) (jes_nil))))) (jp_of (je_tup (jes_cons (je_fn pr_intF (pe_callTy call_int1 (by rfl) T.n_int (by decide +kernel) (jps_cons (jp_of (je_cmp (op_eqA hu) pr_eq (jp_var 10 (pv 10)) (jp_of (je_op op_sub pr_sub (jp_var 3 (pv 3)) (jp_of (je_int)))))) (jps_nil)))) (jes_cons (je_int) (jes_nil)))))) (jss_cons (js_ret (je_bl))
      (jss_nil)) (jss_nil))
      (jss_nil)))
      (jss_cons (js_for PassesOwn.never rfl (ji_seq (je_tup (jes_cons (je_var 5 (pv 5)) (jes_cons (je_fz (jn_lc (own := [("spot", 16)]) rfl nd (ji_seq (je_var 2 (pv 2))) (blkOk_by (N := ["pot", "places", "spots", "many", "drawn", "plain", "numbers", "shown", "told", "signs", "size", "worths", "points", "before", "due", "found", "spot", "worth", "place", "at", "number", "one"]) (sc := defScope s__law_right) (own := [("spot", 16)]) (by decide +kernel)) (fun _ _ _ _ _ => jg_name (pg_name (i := 16) nd rfl (by first | exact Or.inl rfl | exact Or.inr rfl))) (fun _ _ _ _ _ => jt_yes) (fun _ _ _ _ _ => je_ok (ok__law_worth T) hg hr (by rfl) (jes_cons (je_var 4 (pv 4)) (jes_cons (je_var 16 (pv 16)) (jes_nil)))))) (jes_nil))))) (vs := [11]) (jg_name (pg_name (i := 11) nd rfl (by first | exact Or.inl rfl | exact Or.inr rfl))) (jss_cons (js_set (ps_fzN (ps_lcN (i := 12) (own := [("place", 18), ("worth", 17)]) rfl nd rfl rfl (sw_true rfl rfl rfl (by decide +kernel)) (ji_zip (pi_zipM (by rfl) T.n_zip (jes_cons (je_var 1 (pv 1)) (jes_cons (je_var 11 (pv 11)) (jes_nil))))) (blkOk_by (N := ["pot", "places", "spots", "many", "drawn", "plain", "numbers", "shown", "told", "signs", "size", "worths", "points", "before", "due", "found", "spot", "worth", "place", "at", "number", "one"]) (sc := defScope s__law_right) (own := [("place", 18), ("worth", 17)]) (by decide +kernel)) (fun _ _ _ _ _ => jg_tup rfl (jgs_cons (jg_name (pg_name (i := 18) nd rfl (by first | exact Or.inl rfl | exact Or.inr rfl))) (jgs_cons (jg_name (pg_name (i := 17) nd rfl (by first | exact Or.inl rfl | exact Or.inr rfl))) (jgs_nil)))) (fun _ _ _ _ _ => jt_yes) (fun _ _ _ _ _ => je_tup (jes_cons (je_var 18 (pv 18)) (jes_cons (je_if (jt_cmp (op_eqA hu) pr_eq (jp_of (je_ix ix_seq pr_ix (jp_var 17 (pv 17)) (jp_of (je_int)))) (jp_of (je_int))) (je_ix ix_seq pr_ix (jp_var 17 (pv 17)) (jp_of (je_int))) (je_var 17 (pv 17))) (jes_nil)))))))
      (jss_cons (js_par2 (ps_par (i := 13) (j := 14) rfl nd rfl rfl (by decide) rfl rfl (jrs_E (je_fn pr_repr (pe_callB (cr_repr hg hu) (by rfl) T.n_repr (by decide +kernel) (jps_cons (jp_var 12 (pv 12)) (jps_nil)))) (jrs_E (je_ok (ok__law_difference T) hg hr (by rfl) (jes_cons (je_fz (jn_lz (by rfl) T.n_list (by rfl) T.n_zip (jes_cons (je_var 2 (pv 2)) (jes_cons (je_var 11 (pv 11)) (jes_nil))))) (jes_nil))) (jrs_nil))) (by rfl)))
      (jss_cons (js_if (jt_w (jw_or (jt_cmp (op_neA hu) pr_ne (jp_var 14 (pv 14)) (jp_of (je_ok (ok__law_dot T) hg hr (by rfl) (jes_cons (je_var 6 (pv 6)) (jes_cons (je_var 11 (pv 11)) (jes_nil)))))) (jw_or1 (jt_cmp (op_neA hu) pr_ne (jp_of (je_fn pr_repr (pe_callB (cr_repr hg hu) (by rfl) T.n_repr (by decide +kernel) (jps_cons (jp_of (je_fz (jn_lst (jes_cons (je_ok (ok_difference T) hg hr (by rfl) (jes_cons (je_var 12 (pv 12)) (jes_nil))) (jes_cons (je_okK0 (ks := ["points"]) (ix := [0]) (ok_difference T) hg hr (by rfl) (fun _ _ _ _ _ _ us ws h1 h2 => match us, ws, h1, h2 with | [], [_], _, _ => rfl) (jk_cons (je_fn pr_tuple (pe_callTy call_tuple_of (by rfl) T.n_tuple (by decide +kernel) (jps_cons (jp_var 12 (pv 12)) (jps_nil)))) (jk_nil))) (jes_nil)))))) (jps_nil))))) (jp_of (je_fn pr_repr (pe_callB (cr_repr hg hu) (by rfl) T.n_repr (by decide +kernel) (jps_cons (jp_of (je_fz (jn_lst (jes_cons (je_var 14 (pv 14)) (jes_cons (je_var 14 (pv 14)) (jes_nil)))))) (jps_nil))))))))) (jss_cons (js_ret (je_bl))
      (jss_nil)) (jss_nil))
      (jss_cons (js_set (ps_set (i := 15) nd rfl (by first | exact Or.inl rfl | exact Or.inr rfl) (je_ok (ok_power_law T) hg hr (by rfl) (jes_cons (je_fz (jn_fn pr_listN (pe_callTy call_list_of (by rfl) T.n_list PyProof.Rows.boot_list (jps_cons (jp_var 12 (pv 12)) (jps_nil))))) (jes_nil)))))
      (jss_cons (js_if (jt_w (jw_or (jt_cmp (op_neA hu) pr_ne (jp_of (je_fn pr_len (pe_callB cr_lenAll (by rfl) T.n_len PySem.boot_len (jps_cons (jp_var 15 (pv 15)) (jps_nil))))) (jp_var 3 (pv 3))) (jw_or (jt_cmp (op_neA hu) pr_ne (jp_of (je_fn pr_repr (pe_callB (cr_repr hg hu) (by rfl) T.n_repr (by decide +kernel) (jps_cons (jp_of (je_okK0 (ks := ["points"]) (ix := [0]) (ok_power_law T) hg hr (by rfl) (fun _ _ _ _ _ _ us ws h1 h2 => match us, ws, h1, h2 with | [], [_], _, _ => rfl) (jk_cons (je_fz (jn_fn pr_listN (pe_callTy call_list_of (by rfl) T.n_list PyProof.Rows.boot_list (jps_cons (jp_var 12 (pv 12)) (jps_nil))))) (jk_nil)))) (jps_nil))))) (jp_of (je_fn pr_repr (pe_callB (cr_repr hg hu) (by rfl) T.n_repr (by decide +kernel) (jps_cons (jp_var 15 (pv 15)) (jps_nil)))))) (jw_or1 (jt_cmp (op_neA hu) pr_ne (jp_of (je_ix ix_seq pr_ix (jp_var 15 (pv 15)) (jp_of (je_un un_neg pr_neg (jp_of (je_int)))))) (jp_var 14 (pv 14))))))) (jss_cons (js_ret (je_bl))
      (jss_nil)) (jss_nil))
      (jss_cons (js_for PassesOwn.never rfl (ji_zip (pi_zipM (by rfl) T.n_zip (jes_cons (je_var 2 (pv 2)) (jes_cons (je_var 11 (pv 11)) (jes_nil))))) (vs := [16, 17]) (jg_tup rfl (jgs_cons (jg_name (pg_name (i := 16) nd rfl (by first | exact Or.inl rfl | exact Or.inr rfl))) (jgs_cons (jg_name (pg_name (i := 17) nd rfl (by first | exact Or.inl rfl | exact Or.inr rfl))) (jgs_nil)))) (jss_cons (js_if (jt_w (jw_or (jt_cmp (op_neA hu) pr_ne (jp_of (je_ok (ok__law_worth T) hg hr (by rfl) (jes_cons (je_var 15 (pv 15)) (jes_cons (je_var 16 (pv 16)) (jes_nil))))) (jp_var 17 (pv 17))) (jw_or1 (jt_cmp (op_neA hu) pr_ne (jp_of (je_fn pr_repr (pe_callB (cr_repr hg hu) (by rfl) T.n_repr (by decide +kernel) (jps_cons (jp_of (je_fz (jn_lst (jes_cons (je_ok (ok_power_at T) hg hr (by rfl) (jes_cons (je_var 15 (pv 15)) (jes_cons (je_var 16 (pv 16)) (jes_nil)))) (jes_cons (je_okK0 (ks := ["spot", "coefficients"]) (ix := [1, 0]) (ok_power_at T) hg hr (by rfl) (fun _ _ _ _ _ _ us ws h1 h2 => match us, ws, h1, h2 with | [], [_, _], _, _ => rfl) (jk_cons (je_var 16 (pv 16)) (jk_cons (je_fn pr_tuple (pe_callTy call_tuple_of (by rfl) T.n_tuple (by decide +kernel) (jps_cons (jp_var 15 (pv 15)) (jps_nil)))) (jk_nil)))) (jes_nil)))))) (jps_nil))))) (jp_of (je_fn pr_repr (pe_callB (cr_repr hg hu) (by rfl) T.n_repr (by decide +kernel) (jps_cons (jp_of (je_fz (jn_lst (jes_cons (je_var 17 (pv 17)) (jes_cons (je_var 17 (pv 17)) (jes_nil)))))) (jps_nil))))))))) (jss_cons (js_ret (je_bl))
      (jss_nil)) (jss_nil))
      (jss_nil)))
      (jss_cons (js_if (jt_cmp (op_neA hu) pr_ne (jp_of (je_fn pr_repr (pe_callB (cr_repr hg hu) (by rfl) T.n_repr (by decide +kernel) (jps_cons (jp_var 12 (pv 12)) (jps_nil))))) (jp_var 13 (pv 13))) (jss_cons (js_ret (je_bl))
      (jss_nil)) (jss_nil))
      (jss_nil)))))))))
      (jss_cons (js_if (jt_cmp (op_neA hu) pr_ne (jp_of (je_fn pr_repr (pe_callB (cr_repr hg hu) (by rfl) T.n_repr (by decide +kernel) (jps_cons (jp_var 15 (pv 15)) (jps_nil))))) (jp_of (je_fn pr_repr (pe_callB (cr_repr hg hu) (by rfl) T.n_repr (by decide +kernel) (jps_cons (jp_var 4 (pv 4)) (jps_nil)))))) (jss_cons (js_ret (je_bl))
      (jss_nil)) (jss_nil))
      (jss_cons (js_set (ps_set (i := 16) nd rfl (by first | exact Or.inl rfl | exact Or.inr rfl) (je_okL 0 (ok__law_small T) hg hr (by rfl) (pv 0) (jes_nil))))
      (jss_cons (js_ret (je_and (je_cmp (op_eqA hu) pr_eq (jp_of (je_fn pr_repr (pe_callB (cr_repr hg hu) (by rfl) T.n_repr (by decide +kernel) (jps_cons (jp_of (je_ok (ok_power_at T) hg hr (by rfl) (jes_cons (je_fz (jn_lc (own := [("one", 21)]) rfl nd (ji_seq (je_var 4 (pv 4))) (blkOk_by (N := ["pot", "places", "spots", "many", "drawn", "plain", "numbers", "shown", "told", "signs", "size", "worths", "points", "before", "due", "found", "spot", "worth", "place", "at", "number", "one"]) (sc := defScope s__law_right) (own := [("one", 21)]) (by decide +kernel)) (fun _ _ _ _ _ => jg_name (pg_name (i := 21) nd rfl (by first | exact Or.inl rfl | exact Or.inr rfl))) (fun _ _ _ _ _ => jt_yes) (fun _ _ _ _ _ => je_if (jt_cmp (op_eqA hu) pr_eq (jp_of (je_ix ix_seq pr_ix (jp_var 21 (pv 21)) (jp_of (je_int)))) (jp_of (je_int))) (je_ix ix_seq pr_ix (jp_var 21 (pv 21)) (jp_of (je_int))) (je_var 21 (pv 21))))) (jes_cons (je_var 16 (pv 16)) (jes_nil))))) (jps_nil))))) (jp_of (je_fn pr_repr (pe_callB (cr_repr hg hu) (by rfl) T.n_repr (by decide +kernel) (jps_cons (jp_of (je_ok (ok__law_worth T) hg hr (by rfl) (jes_cons (je_var 4 (pv 4)) (jes_cons (je_ok (ok__law_pair T) hg hr (by rfl) (jes_cons (je_var 16 (pv 16)) (jes_nil))) (jes_nil))))) (jps_nil)))))) (je_one (je_cmp (op_eqA hu) pr_eq (jp_of (je_fn pr_repr (pe_callB (cr_repr hg hu) (by rfl) T.n_repr (by decide +kernel) (jps_cons (jp_var 1 (pv 1)) (jps_nil))))) (jp_var 7 (pv 7))))))
      (jss_nil)))))))))))))))
theorem sc_law : FnScope ["script", "pot", "time"] ["script"] (defScope s_law) := ⟨rfl, rfl, rfl, by decide +kernel, rfl, by decide +kernel, by decide +kernel⟩
theorem ok_law (T : Txt K mg) : Ok P w K mg base 9 "law" "law" (defArgs s_law) (defBody s_law) (defScope s_law) ["script"] (spD K 1 g_law) :=
  mkD (N := ["script", "pot", "time"]) T.a_law sc_law 1 rfl (fun _ _ _ _ _ _ us hl => match us, hl with | [_], _ => rfl) (fun f cdv A outer s H hg0 hr0 => by
    have hg : (cxOf CX0 P w K mg base ["script", "pot", "time"] "law" (defScope s_law) f cdv A outer s H E0).nox.A.guards = some [] := hg0
    have hr : Room 8 (cxOf CX0 P w K mg base ["script", "pot", "time"] "law" (defScope s_law) f cdv A outer s H E0).nox.A := hr0
    have hu := hr.units
    have hu1 := room65 hr
    have nd := sc_law.nd
    exact jss_cons (js_setN (ps_set (i := 1) nd rfl (by first | exact Or.inl rfl | exact Or.inr rfl) (jn_ok (ok__law_pot T) hg hr (by rfl) (jes_cons (je_var 0 (pv 0)) (jes_cons (je_int) (jes_nil))))))
      (jss_cons (js_ret (je_fn pr_all (pe_callB (cr_all rfl) (by rfl) T.n_all (by decide +kernel) (jps_cons (jp_of (je_fz (jn_lc (own := [("time", 2)]) rfl nd (ji_range1 (pi_range1 (by rfl) T.n_range (jes_cons (je_int) (jes_nil))) (len_esC fun _ _ h => len_es0 h)) (blkOk_by (N := ["script", "pot", "time"]) (sc := defScope s_law) (own := [("time", 2)]) (by decide +kernel)) (fun _ _ _ _ _ => jg_name (pg_name (i := 2) nd rfl (by first | exact Or.inl rfl | exact Or.inr rfl))) (fun _ _ _ _ _ => jt_yes) (fun _ _ _ _ _ => je_okL 1 (ok__law_right T) hg hr (by rfl) (pv 1) (jes_cons (je_okL 1 (ok__law_places T) hg hr (by rfl) (pv 1) (jes_cons (je_op op_addAll pr_add (jp_of (je_int)) (jp_of (je_okL 1 (ok__law_draw T) hg hr (by rfl) (pv 1) (jes_cons (je_int) (jes_nil))))) (jes_nil))) (jes_nil)))))) (jps_nil)))))
      (jss_nil)))
end
end Q13
namespace Q13
open PySem PySem.Spec PyProof.Rows L2 Jd
/-! ### draws -/
def Pot (p : List PyData) : Prop := ∃ a b : Int, p = [.int a, .int b] ∧ 0 ≤ a ∧ 0 ≤ b ∧ b ≤ 2147483587
theorem draw {p : List PyData} (hp : Pot p) {m : Int} (hm : 0 < m) (hm2 : m < 1073741824) : ∃ (v : Int) (p' : List PyData), Pot p' ∧ 0 ≤ v ∧ v < m ∧ g__law_draw p [.int m] = some (.dat (.int v), p') := by
  obtain ⟨a, b, rfl, ha, hb, hb2⟩ := hp
  have hm0 : ¬ m = 0 := by omega
  have dm : divOk m = true := divOk_of hm0 (sm_lt ⟨by omega, by omega⟩)
  by_cases h : 0 < a
  · have e1 : a.fmod m = a % m := Int.fmod_eq_emod_of_nonneg _ (by omega)
    have e2 : a.fdiv m = a / m := Int.fdiv_eq_ediv_of_nonneg _ (by omega)
    refine ⟨a % m, [.int (a / m), .int b], ⟨_, _, rfl, Int.ediv_nonneg ha (by omega), hb, hb2⟩, Int.emod_nonneg _ (by omega), Int.emod_lt_of_pos _ hm, ?_⟩
    unfold g__law_draw f__law_draw
    rw [sim_runL]
    simp [h, hm0, dm, e1, e2]
  · have b0 : 0 ≤ (b * 39373 + 4229) % 2147483549 := Int.emod_nonneg _ (by omega)
    have b1 : (b * 39373 + 4229) % 2147483549 < 2147483549 := Int.emod_lt_of_pos _ (by omega)
    have e1 : (b * 39373 + 4229).fmod 2147483549 = (b * 39373 + 4229) % 2147483549 := Int.fmod_eq_emod_of_nonneg _ (by omega)
    have m1 : mulOk b 39373 = true := mulOk_of (sm_lt ⟨by omega, by omega⟩) (sm_lt ⟨by omega, by omega⟩)
    generalize hc : (b * 39373 + 4229) % 2147483549 = c at *
    have m2 : mulOk c c = true := mulOk_of (sm_lt ⟨by omega, by omega⟩) (sm_lt ⟨by omega, by omega⟩)
    have e2 : (c * c).fmod 2147483563 = c * c % 2147483563 := Int.fmod_eq_emod_of_nonneg _ (by omega)
    have e3 : (c * c % 2147483563).fdiv 19 = c * c % 2147483563 / 19 := Int.fdiv_eq_ediv_of_nonneg _ (by omega)
    have e4 : (c * c % 2147483563 / 19).fmod m = c * c % 2147483563 / 19 % m := Int.fmod_eq_emod_of_nonneg _ (by omega)
    have d17 : divOk 19 = true := divOk_of (by omega) (sm_lt ⟨by omega, by omega⟩)
    refine ⟨c * c % 2147483563 / 19 % m, [.int a, .int c], ⟨_, _, rfl, ha, b0, by omega⟩, Int.emod_nonneg _ (by omega), Int.emod_lt_of_pos _ hm, ?_⟩
    unfold g__law_draw f__law_draw
    rw [sim_runL]
    simp [h, e1, m1, m2, e2, e3, e4, d17, hm0]
theorem draw_at {p : List PyData} (hp : Pot p) {l : List PyData} (hl : 0 < l.length) (hl2 : l.length < 1000) : ∃ (i : Nat) (p' : List PyData), Pot p' ∧ i < l.length ∧ g__law_draw p [.int l.length] = some (.dat (.int i), p') := by
  obtain ⟨v, p', hp', h0, h1, e⟩ := draw hp (m := (l.length : Int)) (by omega) (by omega)
  refine ⟨v.toNat, p', hp', by omega, ?_⟩
  rw [Int.toNat_of_nonneg h0]
  exact e
theorem pickL {p : List PyData} (hp : Pot p) {l : List PyData} {s : PyData} (hs : s = .list l ∨ s = .tuple l) (hl : 0 < l.length) (hl2 : l.length < 1000) : ∃ (x : PyData) (p' : List PyData), Pot p' ∧ x ∈ l ∧ g__law_pick p [s] = some (.dat x, p') := by
  obtain ⟨v, p', hp', h0, h1, e⟩ := draw hp (m := (l.length : Int)) (by omega) (by omega)
  have hv : v.toNat < l.length := by omega
  refine ⟨l[v.toNat], p', hp', List.getElem_mem hv, ?_⟩
  have ea : atI l v = some l[v.toNat] := by rw [atI_of h0, List.getElem?_eq_getElem hv]
  unfold g__law_pick f__law_pick
  rw [sim_runL]
  rcases hs with rfl | rfl <;> simp [e, ea]
theorem pow18 : gPow (.int 10) (.int 18) = some (.int (10 ^ 18)) := by
  rw [Jd.pow_int, if_pos ⟨by omega, by omega, by decide⟩]
  rfl
theorem pot_of (ns : List Int) : ∃ p, Pot p ∧ g__law_pot [.list (ns.map .int), .int 0] = some (.new p) := by
  have m1 : mulOk 673 0 = true := by decide +kernel
  have m3 : mulOk 4229 0 = true := by decide +kernel
  have main : ∀ c : Int, ∃ p, Pot p ∧ ∃ p0 p1 : Int, p = [.int p0, .int p1] ∧ p0 = (if c - 10 ^ 18 > 0 then c - 10 ^ 18 else 0) ∧ p1 = (c % 2147483549 * 39373 + 137) % 2147483563 + 1 := fun c => by
    have h0 : 0 ≤ (c % 2147483549 * 39373 + 137) % 2147483563 := Int.emod_nonneg _ (by omega)
    have h1 : (c % 2147483549 * 39373 + 137) % 2147483563 < 2147483563 := Int.emod_lt_of_pos _ (by omega)
    exact ⟨_, ⟨_, _, rfl, by split <;> omega, by omega, by omega⟩, _, _, rfl, rfl, rfl⟩
  have low : ∀ c : Int, mulOk (c % 2147483549) 39373 = true := fun c => by
    have c0 : 0 ≤ c % 2147483549 := Int.emod_nonneg _ (by omega)
    have c1 : c % 2147483549 < 2147483549 := Int.emod_lt_of_pos _ (by omega)
    exact mulOk_of (sm_lt ⟨by omega, by omega⟩) (sm_lt ⟨by omega, by omega⟩)
  have f1 : ∀ c : Int, c.fmod 2147483549 = c % 2147483549 := fun c => Int.fmod_eq_emod_of_nonneg _ (by omega)
  have f2 : ∀ c : Int, (c % 2147483549 * 39373 + 137).fmod 2147483563 = (c % 2147483549 * 39373 + 137) % 2147483563 := fun c => Int.fmod_eq_emod_of_nonneg _ (by omega)
  cases ns with
  | nil =>
    obtain ⟨p, hp, p0, p1, rfl, e0, e1⟩ := main 919
    refine ⟨_, hp, ?_⟩
    have m2 := low 919
    have g1 := f1 919
    have g2 := f2 919
    have g3 : mulOk 919 39373 = true := by decide +kernel
    unfold g__law_pot f__law_pot
    rw [sim_runD]
    simp [slots, pow18, m1, m3, g3]
    rw [e0, e1]
    decide
  | cons a r =>
    generalize hc : (if a < 0 then -a else a) = c
    obtain ⟨p, hp, p0, p1, rfl, e0, e1⟩ := main c
    refine ⟨_, hp, ?_⟩
    have m2 := low c
    have g1 := f1 c
    have g2 := f2 c
    unfold g__law_pot f__law_pot
    rw [sim_runD]
    simp [slots, pow18, m1, m2, m3, g1, g2, e0, e1, hc]
end Q13
namespace Q13
open PySem PySem.Spec PyProof.Rows L2 Jd
/-! ### sums, products, divided differences -/
def sumQ : List Rat → Rat
  | [] => 0
  | a :: l => a + sumQ l
def prodQ : List Rat → Rat
  | [] => 1
  | a :: l => a * prodQ l
theorem sum_app : ∀ l m : List Rat, sumQ (l ++ m) = sumQ l + sumQ m
  | [], m => by show sumQ m = 0 + sumQ m; grind
  | a :: l, m => by show a + sumQ (l ++ m) = (a + sumQ l) + sumQ m; rw [sum_app l m]; grind
theorem prod_app : ∀ l m : List Rat, prodQ (l ++ m) = prodQ l * prodQ m
  | [], m => by show prodQ m = 1 * prodQ m; grind
  | a :: l, m => by show a * prodQ (l ++ m) = (a * prodQ l) * prodQ m; rw [prod_app l m]; grind
def fac (x y : Rat) : Rat := if y = x then 1 else x - y
def pd (x : Rat) (xs : List Rat) : Rat := prodQ (xs.map (fac x))
theorem fac_ne (x y : Rat) : fac x y ≠ 0 := by unfold fac; split <;> grind
theorem pd_ne (x : Rat) : ∀ xs : List Rat, pd x xs ≠ 0
  | [] => by show (1 : Rat) ≠ 0; decide
  | y :: l => by
    have := fac_ne x y
    have := pd_ne x l
    show fac x y * pd x l ≠ 0
    grind
theorem pd_app (x : Rat) (l m : List Rat) : pd x (l ++ m) = pd x l * pd x m := by unfold pd; rw [List.map_append, prod_app]
def D (xs : List Rat) (f : Rat → Rat) : Rat := sumQ (xs.map fun x => f x * (pd x xs)⁻¹)
theorem sum_congr {f g : Rat → Rat} : ∀ {l : List Rat}, (∀ x ∈ l, f x = g x) → sumQ (l.map f) = sumQ (l.map g)
  | [], _ => rfl
  | a :: l, h => by
    show f a + sumQ (l.map f) = g a + sumQ (l.map g)
    rw [h a List.mem_cons_self, sum_congr fun x hx => h x (List.mem_cons_of_mem _ hx)]
theorem sum_add {f g : Rat → Rat} : ∀ l : List Rat, sumQ (l.map fun x => f x + g x) = sumQ (l.map f) + sumQ (l.map g)
  | [] => by show (0 : Rat) = 0 + 0; grind
  | a :: l => by
    show (f a + g a) + sumQ (l.map fun x => f x + g x) = (f a + sumQ (l.map f)) + (g a + sumQ (l.map g))
    rw [sum_add l]; grind
theorem sum_mul {f : Rat → Rat} {c : Rat} : ∀ l : List Rat, sumQ (l.map fun x => c * f x) = c * sumQ (l.map f)
  | [] => by show (0 : Rat) = c * 0; grind
  | a :: l => by
    show c * f a + sumQ (l.map fun x => c * f x) = c * (f a + sumQ (l.map f))
    rw [sum_mul l]; grind
theorem D_congr {f g : Rat → Rat} {xs : List Rat} (h : ∀ x ∈ xs, f x = g x) : D xs f = D xs g := sum_congr fun x hx => by rw [h x hx]
theorem D_add (xs : List Rat) (f g : Rat → Rat) : D xs (fun x => f x + g x) = D xs f + D xs g := by
  unfold D
  rw [← sum_add]
  exact sum_congr fun x _ => by grind
theorem D_mul (xs : List Rat) (c : Rat) (f : Rat → Rat) : D xs (fun x => c * f x) = c * D xs f := by
  unfold D
  rw [← sum_mul]
  exact sum_congr fun x _ => by grind
theorem star {l1 l2 : List Rat} {a : Rat} (nd : (l1 ++ a :: l2).Nodup) (f : Rat → Rat) : D (l1 ++ a :: l2) (fun x => (x - a) * f x) = D (l1 ++ l2) f := by
  have nd1 : ∀ x ∈ l1, x ≠ a := fun x hx => (List.nodup_append.mp nd).2.2 x hx a List.mem_cons_self
  have nd2 : ∀ x ∈ l2, x ≠ a := fun x hx e => (List.nodup_cons.mp (List.nodup_append.mp nd).2.1).1 (e ▸ hx)
  have key : ∀ x, x ≠ a → ((x - a) * f x) * (pd x (l1 ++ a :: l2))⁻¹ = f x * (pd x (l1 ++ l2))⁻¹ := fun x hx => by
    have e : pd x (l1 ++ a :: l2) = (x - a) * pd x (l1 ++ l2) := by
      rw [pd_app, pd_app]
      show pd x l1 * (fac x a * pd x l2) = _
      have : fac x a = x - a := if_neg fun e => hx e.symm
      rw [this]; grind
    have p := pd_ne x (l1 ++ l2)
    have q : x - a ≠ 0 := by grind
    rw [e]
    generalize pd x (l1 ++ l2) = P at *
    generalize x - a = d at *
    rw [Rat.inv_mul_rev]
    have : d * d⁻¹ = 1 := Rat.mul_inv_cancel _ q
    grind
  unfold D
  rw [List.map_append, List.map_cons, List.map_append, sum_app, sum_app]
  show sumQ (l1.map _) + (((a - a) * f a) * (pd a (l1 ++ a :: l2))⁻¹ + sumQ (l2.map _)) = _
  rw [sum_congr fun x hx => key x (nd1 x hx), sum_congr (l := l2) fun x hx => key x (nd2 x hx)]
  grind
theorem two {a b : Rat} {mid : List Rat} (nd : (a :: (mid ++ [b])).Nodup) (f : Rat → Rat) : (b - a) * D (a :: (mid ++ [b])) f = D (mid ++ [b]) f - D (a :: mid) f := by
  have s1 := star (l1 := []) (a := a) (l2 := mid ++ [b]) nd f
  have s2 := star (l1 := a :: mid) (a := b) (l2 := []) nd f
  rw [List.append_nil] at s2
  rw [← D_mul]
  have e := D_add (a :: (mid ++ [b])) (fun x => (b - a) * f x) (fun x => (x - b) * f x)
  have e2 : D (a :: (mid ++ [b])) (fun x => (b - a) * f x + (x - b) * f x) = D (a :: (mid ++ [b])) (fun x => (x - a) * f x) := D_congr fun x _ => by grind
  rw [e2] at e
  show D (a :: (mid ++ [b])) _ = _
  have s1' : D (a :: (mid ++ [b])) (fun x => (x - a) * f x) = D (mid ++ [b]) f := s1
  have s2' : D (a :: (mid ++ [b])) (fun x => (x - b) * f x) = D (a :: mid) f := s2
  grind
theorem split_ends {xs : List Rat} (h : 2 ≤ xs.length) : ∃ a mid b, xs = a :: (mid ++ [b]) := by
  cases xs with
  | nil => simp at h
  | cons a r =>
    have : r ≠ [] := by intro e; subst e; simp at h
    exact ⟨a, r.dropLast, r.getLast this, by rw [List.dropLast_concat_getLast]⟩
theorem T0 : ∀ (n : Nat) (xs : List Rat), xs.length = n + 1 → xs.Nodup → D xs (fun _ => 1) = if n = 0 then 1 else 0
  | 0, xs, hl, nd => by
    obtain ⟨x, rfl⟩ := List.length_eq_one_iff.mp hl
    rw [if_pos rfl]
    show 1 * (fac x x * 1)⁻¹ + 0 = (1 : Rat)
    have : fac x x = 1 := if_pos rfl
    rw [this]; grind
  | n + 1, xs, hl, nd => by
    obtain ⟨a, mid, b, rfl⟩ := split_ends (xs := xs) (by omega)
    rw [if_neg (by omega)]
    have t := two nd fun _ => 1
    simp at hl
    have n1 : (mid ++ [b]).Nodup := (List.nodup_cons.mp nd).2
    have n2 : (a :: mid).Nodup := by
      have : (a :: mid) ++ [b] = a :: (mid ++ [b]) := rfl
      rw [← this] at nd
      exact (List.nodup_append.mp nd).1
    rw [T0 n (mid ++ [b]) (by simp; omega) n1, T0 n (a :: mid) (by simp; omega) n2] at t
    have ne : b - a ≠ 0 := by
      have : a ≠ b := fun e => (List.nodup_cons.mp nd).1 (by rw [e]; simp)
      grind
    have t' : (b - a) * D (a :: (mid ++ [b])) (fun _ => 1) = 0 := by rw [t]; grind
    rcases Rat.mul_eq_zero.mp t' with w | w
    · exact absurd w ne
    · exact w
theorem Tpow : ∀ (s : Nat) (xs : List Rat), xs.Nodup → s < xs.length → D xs (fun x => x ^ s) = if s + 1 = xs.length then 1 else 0
  | 0, xs, nd, h => by
    have := T0 (xs.length - 1) xs (by omega) nd
    have e : D xs (fun x => x ^ 0) = D xs (fun _ => 1) := D_congr fun x _ => Rat.pow_zero x
    rw [e, this]
    by_cases c : xs.length - 1 = 0
    · rw [if_pos c, if_pos (by omega)]
    · rw [if_neg c, if_neg (by omega)]
  | s + 1, xs, nd, h => by
    cases xs with
    | nil => simp at h
    | cons x0 r =>
      have e1 : D (x0 :: r) (fun x => x ^ (s + 1)) = D (x0 :: r) (fun x => (x - x0) * x ^ s + x0 * x ^ s) := D_congr fun x _ => by rw [Rat.pow_succ]; grind
      have s1 := star (l1 := []) (a := x0) (l2 := r) nd (fun x => x ^ s)
      have s1' : D (x0 :: r) (fun x => (x - x0) * x ^ s) = D r (fun x => x ^ s) := s1
      have h' : s + 1 < r.length + 1 := h
      have t1 : D (x0 :: r) (fun x => x ^ s) = 0 := by rw [Tpow s (x0 :: r) nd (by omega), if_neg (by show ¬ s + 1 = r.length + 1; omega)]
      have t2 := Tpow s r (List.nodup_cons.mp nd).2 (by omega)
      rw [e1, D_add, D_mul, s1', t1, t2]
      by_cases c : s + 1 = r.length
      · rw [if_pos c, if_pos (by show s + 1 + 1 = r.length + 1; omega)]; grind
      · rw [if_neg c, if_neg (by show ¬ s + 1 + 1 = r.length + 1; omega)]; grind
/-! ### polynomials -/
def evalP : List Rat → Rat → Rat
  | [], _ => 0
  | a :: l, x => a + x * evalP l x
def lastQ : List Rat → Rat
  | [] => 0
  | [a] => a
  | _ :: b :: l => lastQ (b :: l)
theorem topD : ∀ (c : List Rat) (k : Nat) (xs : List Rat), xs.Nodup → c ≠ [] → c.length + k = xs.length → D xs (fun x => evalP c x * x ^ k) = lastQ c
  | [], _, _, _, h, _ => absurd rfl h
  | [a], k, xs, nd, _, hl => by
    have hl' : 1 + k = xs.length := hl
    have e : D xs (fun x => evalP [a] x * x ^ k) = D xs (fun x => a * x ^ k) := D_congr fun x _ => by show (a + x * 0) * x ^ k = _; grind
    rw [e, D_mul, Tpow k xs nd (by omega), if_pos (by omega)]
    show a * 1 = a
    grind
  | a :: b :: l, k, xs, nd, _, hl => by
    have hl' : l.length + 1 + 1 + k = xs.length := hl
    have e : D xs (fun x => evalP (a :: b :: l) x * x ^ k) = D xs (fun x => a * x ^ k + evalP (b :: l) x * x ^ (k + 1)) := D_congr fun x _ => by
      show (a + x * evalP (b :: l) x) * x ^ k = _
      rw [Rat.pow_succ]; grind
    rw [e, D_add, D_mul, Tpow k xs nd (by omega), if_neg (by omega), topD (b :: l) (k + 1) xs nd (by simp) (by show l.length + 1 + (k + 1) = _; omega)]
    show a * 0 + lastQ (b :: l) = lastQ (b :: l)
    grind
theorem top {c xs : List Rat} (nd : xs.Nodup) (h : c ≠ []) (hl : c.length = xs.length) : D xs (evalP c) = lastQ c := by
  rw [← topD c 0 xs nd h hl]
  exact D_congr fun x _ => by rw [Rat.pow_zero]; grind
theorem eval_app (t : Rat) (x : Rat) : ∀ c : List Rat, evalP (c ++ [t]) x = evalP c x + t * x ^ c.length
  | [] => by show t + x * 0 = 0 + t * x ^ 0; rw [Rat.pow_zero]; grind
  | a :: l => by
    show a + x * evalP (l ++ [t]) x = a + x * evalP l x + t * x ^ (l.length + 1)
    rw [eval_app t x l, Rat.pow_succ]; grind
theorem last_app (t : Rat) : ∀ c : List Rat, lastQ (c ++ [t]) = t
  | [] => rfl
  | [a] => rfl
  | a :: b :: l => last_app t (b :: l)
def lin (t : Rat) (u v : List Rat) : List Rat := List.zipWith (fun a b => a + t * b) u v
theorem eval_lin (t x : Rat) : ∀ {u v : List Rat}, u.length = v.length → evalP (lin t u v) x = evalP u x + t * evalP v x
  | [], [], _ => by show (0 : Rat) = 0 + t * 0; grind
  | a :: u, b :: v, h => by
    have ih := eval_lin t x (u := u) (v := v) (by simpa using h)
    show (a + t * b) + x * evalP (lin t u v) x = (a + x * evalP u x) + t * (b + x * evalP v x)
    rw [ih]; grind
  | [], b :: v, h => by simp at h
  | a :: u, [], h => by simp at h
theorem last_lin (t : Rat) : ∀ {u v : List Rat}, u.length = v.length → lastQ (lin t u v) = lastQ u + t * lastQ v
  | [], [], _ => by show (0 : Rat) = 0 + t * 0; grind
  | [a], [b], _ => rfl
  | a :: a' :: u, b :: b' :: v, h => last_lin t (u := a' :: u) (v := b' :: v) (by simpa using h)
  | [], b :: v, h => by simp at h
  | a :: u, [], h => by simp at h
  | [a], b :: b' :: v, h => by simp at h
  | a :: a' :: u, [b], h => by simp at h
def lg (p prev : Rat) : List Rat → List Rat
  | [] => [prev]
  | a :: l => (prev - a * p) :: lg p a l
theorem lg_len (p : Rat) : ∀ (prev : Rat) (l : List Rat), (lg p prev l).length = l.length + 1
  | _, [] => rfl
  | _, a :: l => by show (lg p a l).length + 1 = l.length + 1 + 1; rw [lg_len p a l]
theorem eval_lg (p x : Rat) : ∀ (prev : Rat) (l : List Rat), evalP (lg p prev l) x = prev + (x - p) * evalP l x
  | prev, [] => by show prev + x * 0 = prev + (x - p) * 0; grind
  | prev, a :: l => by
    show (prev - a * p) + x * evalP (lg p a l) x = prev + (x - p) * (a + x * evalP l x)
    rw [eval_lg p x a l]; grind
theorem last_lg (p : Rat) : ∀ (prev : Rat) (l : List Rat), l ≠ [] → lastQ (lg p prev l) = lastQ l
  | _, [], h => absurd rfl h
  | _, [a], _ => rfl
  | _, a :: b :: l, _ => last_lg p a (b :: l) (by simp)
theorem uniq : ∀ (n : Nat) (xs c d : List Rat), xs.length = n → c.length = n → d.length = n → xs.Nodup → (∀ x ∈ xs, evalP c x = evalP d x) → c = d
  | 0, xs, c, d, _, hc, hd, _, _ => by rw [List.length_eq_zero_iff.mp hc, List.length_eq_zero_iff.mp hd]
  | n + 1, xs, c, d, hx, hc, hd, nd, h => by
    have cne : c ≠ [] := by intro e; subst e; simp at hc
    have dne : d ≠ [] := by intro e; subst e; simp at hd
    have xne : xs ≠ [] := by intro e; subst e; simp at hx
    have t : lastQ c = lastQ d := by rw [← top nd cne (by omega), ← top nd dne (by omega)]; exact D_congr h
    obtain ⟨c0, u, rfl⟩ : ∃ c0 u, c = c0 ++ [u] := ⟨_, _, (List.dropLast_concat_getLast cne).symm⟩
    obtain ⟨d0, v, rfl⟩ : ∃ d0 v, d = d0 ++ [v] := ⟨_, _, (List.dropLast_concat_getLast dne).symm⟩
    obtain ⟨ys, z, rfl⟩ : ∃ ys z, xs = ys ++ [z] := ⟨_, _, (List.dropLast_concat_getLast xne).symm⟩
    rw [last_app, last_app] at t
    subst t
    simp at hx hc hd
    have e := uniq n ys c0 d0 hx hc hd (List.nodup_append.mp nd).1 fun x hx' => by
      have := h x (List.mem_append.mpr (.inl hx'))
      rw [eval_app, eval_app, hc, hd] at this
      grind
    rw [e]
end Q13
namespace Q13
open PySem PySem.Spec PyProof.Rows L2 Jd
/-! ### Newton's road -/
structure Nw (f : Rat → Rat) (done c F : List Rat) : Prop where
  lc : c.length = done.length
  lF : F.length = done.length + 1
  top : lastQ F = 1
  ok : ∀ y ∈ done, evalP c y = f y
  zero : ∀ y ∈ done, evalP F y = 0
  nz : ∀ z, z ∉ done → evalP F z ≠ 0
theorem nw0 (f : Rat → Rat) : Nw f [] [] [1] := ⟨rfl, rfl, rfl, (fun _ h => nomatch h), (fun _ h => nomatch h), fun z _ => by show (1 : Rat) + z * 0 ≠ 0; grind⟩
theorem nw_step {f : Rat → Rat} {done c F : List Rat} {x : Rat} (nd : (done ++ [x]).Nodup) (h : Nw f done c F) : Nw f (done ++ [x]) (lin (D (done ++ [x]) f) (c ++ [0]) F) (lg x 0 F) := by
  have xn : x ∉ done := fun hx => (List.nodup_append.mp nd).2.2 x hx x List.mem_cons_self rfl
  have nz := h.nz x xn
  have lcF : (c ++ [0]).length = F.length := by rw [List.length_append, h.lF, h.lc]; rfl
  have Fne : F ≠ [] := by intro e; have := h.lF; rw [e] at this; simp at this
  have ev : ∀ t y, evalP (lin t (c ++ [0]) F) y = evalP c y + t * evalP F y := fun t y => by
    rw [eval_lin t y lcF, eval_app]; grind
  obtain ⟨t, ht⟩ : ∃ t, t = (f x - evalP c x) / evalP F x := ⟨_, rfl⟩
  have ex : t * evalP F x = f x - evalP c x := by rw [ht, Rat.div_def]; have := Rat.inv_mul_cancel _ nz; grind
  have all : ∀ y ∈ done ++ [x], evalP (lin t (c ++ [0]) F) y = f y := fun y hy => by
    rw [ev]
    rcases List.mem_append.mp hy with hy | hy
    · rw [h.zero y hy, h.ok y hy]; grind
    · rw [List.mem_singleton.mp hy]; grind
  have ll : (lin t (c ++ [0]) F).length = (done ++ [x]).length := by
    unfold lin
    rw [List.length_zipWith, lcF, h.lF, List.length_append]
    simp
  have dt : D (done ++ [x]) f = t := by
    rw [← D_congr all, top nd (by intro e; rw [e] at ll; simp at ll) ll, last_lin t lcF, last_app, h.top]
    grind
  rw [dt]
  refine ⟨ll, by rw [lg_len, h.lF]; simp, by rw [last_lg x 0 F Fne, h.top], all, fun y hy => ?_, fun z hz => ?_⟩
  · rw [eval_lg]
    rcases List.mem_append.mp hy with hy | hy
    · rw [h.zero y hy]; grind
    · rw [List.mem_singleton.mp hy]; grind
  · rw [eval_lg]
    have z1 : z ∉ done := fun q => hz (List.mem_append.mpr (.inl q))
    have z2 : z ≠ x := fun q => hz (by rw [q]; simp)
    have := h.nz z z1
    grind
/-! ### signs -/
theorem pd_pos {x : Rat} : ∀ l : List Rat, (∀ y ∈ l, y < x) → 0 < pd x l
  | [], _ => by show (0 : Rat) < 1; decide
  | y :: l, h => by
    have h1 := h y List.mem_cons_self
    have e : fac x y = x - y := if_neg (Rat.ne_of_lt h1)
    have ih := pd_pos l fun z hz => h z (List.mem_cons_of_mem _ hz)
    show 0 < fac x y * pd x l
    rw [e]
    exact Rat.mul_pos (by grind) ih
theorem pd_sign {x : Rat} : ∀ l : List Rat, (∀ y ∈ l, x < y) → (0 < pd x l ↔ l.length % 2 = 0)
  | [], _ => by
    have : (0 : Rat) < pd x [] := by show (0 : Rat) < 1; decide
    simp [this]
  | y :: l, h => by
    have h1 := h y List.mem_cons_self
    have e : fac x y = x - y := if_neg (by grind)
    have ih := pd_sign l fun z hz => h z (List.mem_cons_of_mem _ hz)
    have ne := pd_ne x l
    have ep : pd x (y :: l) = (x - y) * pd x l := by show fac x y * pd x l = _; rw [e]
    rw [ep]
    have ll : (y :: l).length = l.length + 1 := rfl
    rw [ll]
    by_cases c : 0 < pd x l
    · have := ih.mp c
      have neg : (x - y) * pd x l < 0 := by
        have : 0 < (y - x) * pd x l := Rat.mul_pos (by grind) c
        grind
      constructor
      · intro w; grind
      · intro w; omega
    · have := mt ih.mpr c
      have neg : pd x l < 0 := by grind
      have : 0 < (x - y) * pd x l := by
        have : 0 < (y - x) * (- pd x l) := Rat.mul_pos (by grind) (by grind)
        grind
      constructor
      · intro w; omega
      · intro w; exact this
theorem inv_pos_iff {p : Rat} (h : p ≠ 0) : 0 < p⁻¹ ↔ 0 < p := by
  constructor
  · intro w
    have := Rat.inv_pos.mp w
    exact this
  · intro w
    exact Rat.inv_pos.mpr w
/-! ### common denominators -/
def Dv (d N : Nat) (q : Rat) : Prop := ∃ a : Int, q = (a : Rat) / ((d : Int) : Rat) ∧ a.natAbs ≤ N
theorem dq_ne {d : Nat} (h : 0 < d) : ((d : Int) : Rat) ≠ 0 := by intro z; have := Rat.intCast_eq_zero_iff.mp z; omega
theorem Dv.mono {d N M : Nat} {q : Rat} (h : Dv d N q) (l : N ≤ M) : Dv d M q := let ⟨a, e, b⟩ := h; ⟨a, e, Nat.le_trans b l⟩
theorem Dv.add {d N M : Nat} {p q : Rat} (hp : Dv d N p) (hq : Dv d M q) : Dv d (N + M) (p + q) := by
  obtain ⟨a, rfl, ha⟩ := hp
  obtain ⟨b, rfl, hb⟩ := hq
  refine ⟨a + b, ?_, Nat.le_trans (Int.natAbs_add_le a b) (Nat.add_le_add ha hb)⟩
  rw [Rat.intCast_add]
  grind
theorem Dv.neg {d N : Nat} {p : Rat} (hp : Dv d N p) : Dv d N (-p) := by
  obtain ⟨a, rfl, ha⟩ := hp
  refine ⟨-a, ?_, by rw [Int.natAbs_neg]; exact ha⟩
  rw [Rat.intCast_neg]
  grind
theorem Dv.mul {d e N M : Nat} {p q : Rat} (hp : Dv d N p) (hq : Dv e M q) (hd : 0 < d) (he : 0 < e) : Dv (d * e) (N * M) (p * q) := by
  obtain ⟨a, rfl, ha⟩ := hp
  obtain ⟨b, rfl, hb⟩ := hq
  refine ⟨a * b, ?_, by rw [Int.natAbs_mul]; exact Nat.mul_le_mul ha hb⟩
  have h1 := dq_ne hd
  have h2 := dq_ne he
  rw [Rat.intCast_mul, Int.natCast_mul, Rat.intCast_mul]
  grind
theorem Dv.scale {d N : Nat} {p : Rat} (hp : Dv d N p) (k : Nat) (hd : 0 < d) (hk : 0 < k) : Dv (d * k) (N * k) p := by
  have one : Dv k k 1 := ⟨k, by have := dq_ne hk; grind, by omega⟩
  have := hp.mul one hd hk
  rw [Rat.mul_one] at this
  exact this
theorem Dv.bq {d N k : Nat} {q : Rat} (h : Dv d N q) (hd : 0 < d) (h1 : d < 2 ^ k) (h2 : N < 2 ^ k) : Bq k q := by
  obtain ⟨a, rfl, ha⟩ := h
  rw [← Rat.divInt_eq_div]
  exact ⟨Nat.lt_of_le_of_lt (div_le_num a (by omega)) (Nat.lt_of_le_of_lt ha h2), Nat.lt_of_le_of_lt (div_le_den a (by omega)) (by rw [Int.natAbs_natCast]; exact h1)⟩
def Lc : Nat := 718766754945489455304472257065075294400
theorem Lc_pos : 0 < Lc := by decide +kernel
theorem Lc_dvd {d : Nat} (h0 : 0 < d) (h : d ≤ 90) : d ∣ Lc := by
  have all : ∀ d < 91, 0 < d → Lc % d = 0 := by decide +kernel
  exact Nat.dvd_of_mod_eq_zero (all d (by omega) h0)
/-- a place: so many sixths -/
def Six (x : Rat) : Prop := Dv 6 300 x
theorem Six.b {x : Rat} (h : Six x) : Bq 10 x := h.bq (by decide) (by decide) (by decide)
structure PlOk (xs : List Rat) : Prop where
  pos : 0 < xs.length
  most : xs.length ≤ 6
  up : xs.Pairwise (· < ·)
  six : ∀ x ∈ xs, Six x
  near : ∀ x ∈ xs, ∀ y ∈ xs, x - y ≤ 15
theorem PlOk.nd {xs : List Rat} (h : PlOk xs) : xs.Nodup := h.up.imp fun l => Rat.ne_of_lt l
theorem inv_dv {x y : Rat} (hx : Six x) (hy : Six y) (n : x ≠ y) (n1 : x - y ≤ 15) (n2 : y - x ≤ 15) : Dv Lc (6 * Lc) (x - y)⁻¹ := by
  obtain ⟨a, rfl, ha⟩ := hx
  obtain ⟨b, rfl, hb⟩ := hy
  have s0 : ((6 : Int) : Rat) = 6 := rfl
  have e : (a : Rat) / (((6 : Nat) : Int) : Rat) - (b : Rat) / (((6 : Nat) : Int) : Rat) = ((a - b : Int) : Rat) / 6 := by
    rw [Rat.intCast_sub]
    show (a : Rat) / ((6 : Int) : Rat) - (b : Rat) / ((6 : Int) : Rat) = _
    rw [s0]; grind
  have e' : (b : Rat) / (((6 : Nat) : Int) : Rat) - (a : Rat) / (((6 : Nat) : Int) : Rat) = ((b - a : Int) : Rat) / 6 := by
    rw [Rat.intCast_sub]
    show (b : Rat) / ((6 : Int) : Rat) - (a : Rat) / ((6 : Int) : Rat) = _
    rw [s0]; grind
  rw [e] at n1 ⊢
  rw [e'] at n2
  have q90 : ((90 : Int) : Rat) = 90 := rfl
  have l1 : a - b ≤ 90 := Rat.intCast_le_intCast.mp (by rw [q90]; grind)
  have l2 : b - a ≤ 90 := Rat.intCast_le_intCast.mp (by rw [q90]; grind)
  have nz : a - b ≠ 0 := fun z => n (by rw [show a = b by omega])
  obtain ⟨d, hd⟩ : ∃ d, d = a - b := ⟨_, rfl⟩
  rw [← hd] at l1 nz ⊢
  have dv : d ∣ (Lc : Int) := Int.natAbs_dvd_natAbs.mp (by rw [Int.natAbs_natCast]; exact Lc_dvd (by omega) (by omega))
  obtain ⟨m, hm⟩ := dv
  have dq : (d : Rat) ≠ 0 := by intro z; have := Rat.intCast_eq_zero_iff.mp z; omega
  have lq := dq_ne Lc_pos
  have hmq : ((Lc : Int) : Rat) = (d : Rat) * (m : Rat) := by rw [hm, Rat.intCast_mul]
  refine ⟨6 * m, ?_, ?_⟩
  · rw [Rat.intCast_mul, s0, hmq]
    have mq : (m : Rat) ≠ 0 := by intro z; rw [z] at hmq; rw [hmq] at lq; grind
    grind
  · rw [Int.natAbs_mul]
    refine Nat.mul_le_mul (by decide) ?_
    have : (Lc : Int).natAbs = d.natAbs * m.natAbs := by rw [hm, Int.natAbs_mul]
    rw [Int.natAbs_natCast] at this
    rw [this]
    exact Nat.le_mul_of_pos_left _ (by omega)
end Q13
namespace Q13
open PySem PySem.Spec PyProof.Rows L2 Jd
/-! ### ratios -/
theorem gcd_le {a b : Int} (hb : b ≠ 0) : Nat.gcd a.natAbs b.natAbs ≤ b.natAbs := Nat.gcd_le_right _ (by omega)
theorem made_q {a b : Int} (hb : b ≠ 0) (hb2 : b.natAbs < 2 ^ 7000) : g_made [.int a, .int b] = some (.dat (rq (Rat.divInt a b))) := by
  have g0 := gcd_pos (a := a) hb
  have gl : Nat.gcd a.natAbs b.natAbs < 2 ^ 7000 := Nat.lt_of_le_of_lt (gcd_le hb) hb2
  have m1 : mulOk ((Nat.gcd a.natAbs b.natAbs : Nat) : Int) 1 = true := mulOk_k (j := 7000) (k := 1) (by rw [Int.natAbs_natCast]; exact gl) (by decide)
  have m2 : mulOk ((Nat.gcd a.natAbs b.natAbs : Nat) : Int) (-1) = true := mulOk_k (j := 7000) (k := 1) (by rw [Int.natAbs_natCast]; exact gl) (by decide)
  have d1 : divOk ((Nat.gcd a.natAbs b.natAbs : Nat) : Int) = true := divOk_k (k := 7000) (by omega) (by rw [Int.natAbs_natCast]; exact gl)
  have d2 : divOk (-((Nat.gcd a.natAbs b.natAbs : Nat) : Int)) = true := divOk_k (k := 7000) (by omega) (by rw [Int.natAbs_neg, Int.natAbs_natCast]; exact gl)
  by_cases h : 0 < b
  · have e := mk_pos (a := a) h
    unfold g_made f_made
    rw [sim_runD]
    simp [slots, h, m1, d1, e.1, e.2, rq]
  · have e := mk_neg (a := a) (b := b) (by omega)
    unfold g_made f_made
    rw [sim_runD]
    simp [slots, h, m2, d2, e.1, e.2, rq]
theorem lt_pow {a j k : Nat} (h : a < 2 ^ j) (l : j ≤ k := by decide) : a < 2 ^ k := Nat.lt_of_lt_of_le h (Nat.pow_le_pow_right (by omega) l)
theorem den_lt {p q : Rat} (hp : Bq 2000 p) (hq : Bq 2000 q) : ((p.den : Int) * q.den).natAbs < 2 ^ 7000 := by
  rw [Int.natAbs_mul, Int.natAbs_natCast, Int.natAbs_natCast]
  exact lt_pow (lt_mul2 hp.2 hq.2)
theorem dnum_lt {p q : Rat} (hp : Bq 2000 p) (hq : Bq 2000 q) : ((p.den : Int) * q.num).natAbs < 2 ^ 7000 := by
  rw [Int.natAbs_mul, Int.natAbs_natCast]
  exact lt_pow (lt_mul2 hp.2 hq.1)
theorem dnum_ne {p q : Rat} (h : q ≠ 0) : ((p.den : Int) * q.num) ≠ 0 := Int.mul_ne_zero (by have := p.den_pos; omega) (num_ne h)
structure Mk (p q : Rat) : Prop where
  nn : mulOk p.num q.num = true
  nd : mulOk p.num (q.den : Int) = true
  dn : mulOk (p.den : Int) q.num = true
  dd : mulOk (p.den : Int) (q.den : Int) = true
theorem mk_ok {p q : Rat} (hp : Bq 2000 p) (hq : Bq 2000 q) : Mk p q :=
  have d1 : ((p.den : Int)).natAbs < 2 ^ 2000 := by rw [Int.natAbs_natCast]; exact hp.2
  have d2 : ((q.den : Int)).natAbs < 2 ^ 2000 := by rw [Int.natAbs_natCast]; exact hq.2
  ⟨mulOk_k hp.1 hq.1, mulOk_k hp.1 d2, mulOk_k d1 hq.1, mulOk_k d1 d2⟩
section
variable {p q : Rat} (hp : Bq 2000 p) (hq : Bq 2000 q)
include hp hq
theorem r_minus : g_r_minus [rq p, rq q] = some (.dat (rq (p - q))) := by
  have m := mk_ok hp hq
  have n := mk_ok hq hp
  have e := made_q (a := p.num * q.den - q.num * p.den) (den_ne p q) (den_lt hp hq)
  rw [div_sub] at e
  unfold g_r_minus f_r_minus
  rw [sim_runD]
  simp only [rq] at e
  simp [slots, rq, m.nd, n.nd, m.dd, e]
theorem r_plus : g_r_plus [rq p, rq q] = some (.dat (rq (p + q))) := by
  have m := mk_ok hp hq
  have n := mk_ok hq hp
  have e := made_q (a := p.num * q.den + q.num * p.den) (den_ne p q) (den_lt hp hq)
  rw [div_add] at e
  unfold g_r_plus f_r_plus
  rw [sim_runD]
  simp only [rq] at e
  simp [slots, rq, m.nd, n.nd, m.dd, e]
theorem r_times : g_r_times [rq p, rq q] = some (.dat (rq (p * q))) := by
  have m := mk_ok hp hq
  have e := made_q (a := p.num * q.num) (den_ne p q) (den_lt hp hq)
  rw [div_mul] at e
  unfold g_r_times f_r_times
  rw [sim_runD]
  simp only [rq] at e
  simp [slots, rq, m.nn, m.dd, e]
theorem r_over (h : q ≠ 0) : g_r_over [rq p, rq q] = some (.dat (rq (p / q))) := by
  have m := mk_ok hp hq
  have e := made_q (a := p.num * q.den) (dnum_ne (p := p) h) (dnum_lt hp hq)
  rw [div_div h] at e
  unfold g_r_over f_r_over
  rw [sim_runD]
  simp only [rq] at e
  simp [slots, rq, m.nd, m.dn, e]
theorem r_less : g_r_less [rq p, rq q] = some (.dat (.bool (decide (p < q)))) := by
  have m := mk_ok hp hq
  have n := mk_ok hq hp
  unfold g_r_less f_r_less
  rw [sim_runD]
  simp [slots, rq, m.nd, n.nd, Rat.lt_iff]
end
/-! own ratios -/
theorem made_loop (A B : Sl) (a b : Nat) (h : b < 2 ^ 7000) (x4 : Sl) : loopW (dB (dOp gGt (dPv 3) (dAg (dC (.int 0))))) b__law_frac_0 WF [A, B, .dat (.int a), .dat (.int b), x4] = some (.nx, [A, B, .dat (.int (Nat.gcd a b : Nat)), .dat (.int 0), x4]) :=
  euclid (st := fun a b => [A, B, .dat (.int a), .dat (.int b), x4]) (fun a => by simp) (fun a b hb => by simp; omega) (fun a b hb => by
    have hm : ((a : Int).fmod b) = ((a % b : Nat) : Int) := by rw [Int.fmod_eq_emod_of_nonneg _ (by omega)]; rfl
    have c' : ¬ (b : Int) = 0 := by omega
    unfold b__law_frac_0
    simp [hb, c', hm]) 7000 WF a b h (by rw [wf_big]; decide)
theorem law_frac {a b : Int} (hb : b ≠ 0) (ha2 : a.natAbs < 2 ^ 7000) (hb2 : b.natAbs < 2 ^ 7000) : g__law_frac [.int a, .int b] = some (.dat (rq (Rat.divInt a b))) := by
  have g0 := gcd_pos (a := a) hb
  have gl : Nat.gcd a.natAbs b.natAbs < 2 ^ 7000 := Nat.lt_of_le_of_lt (gcd_le hb) hb2
  have d1 : divOk ((Nat.gcd a.natAbs b.natAbs : Nat) : Int) = true := divOk_k (k := 7000) (by omega) (by rw [Int.natAbs_natCast]; exact gl)
  have l := made_loop (.dat (.int a)) (.dat (.int b)) a.natAbs b.natAbs hb2 .un
  have e := mk_own (a := a) hb
  have a1 := ab_nat a
  have a2 := ab_nat b
  have m1 : mulOk 1 a = true := mulOk_k (j := 1) (k := 7000) (by decide) ha2
  have m2 : mulOk (-1) a = true := mulOk_k (j := 1) (k := 7000) (by decide) ha2
  have m3 : mulOk 1 b = true := mulOk_k (j := 1) (k := 7000) (by decide) hb2
  have m4 : mulOk (-1) b = true := mulOk_k (j := 1) (k := 7000) (by decide) hb2
  by_cases c : b < 0
  · rw [if_pos c] at e a2
    rw [if_pos c] at e
    rw [← a2] at l
    simp at e
    unfold g__law_frac f__law_frac
    rw [sim_runD]
    simp [slots, a1, l, c, m2, m4, d1, e.1, e.2, rq]
  · rw [if_neg c] at e a2
    rw [if_neg c] at e
    rw [← a2] at l
    simp at e
    unfold g__law_frac f__law_frac
    rw [sim_runD]
    simp [slots, a1, l, c, m1, m3, d1, e.1, e.2, rq]
section
variable {p q : Rat} (hp : Bq 2000 p) (hq : Bq 2000 q)
include hp hq
theorem add_lt : (p.num * q.den + q.num * p.den).natAbs < 2 ^ 7000 := by
  have t := Int.natAbs_add_le (p.num * q.den) (q.num * p.den)
  have h1 : p.num.natAbs * q.den < 2 ^ 4000 := lt_mul2 hp.1 hq.2
  have h2 : q.num.natAbs * p.den < 2 ^ 4000 := lt_mul2 hq.1 hp.2
  rw [Int.natAbs_mul, Int.natAbs_mul, Int.natAbs_natCast, Int.natAbs_natCast] at t
  refine lt_pow (j := 4001) ?_
  rw [Nat.pow_succ]
  omega
theorem sub_lt : (p.num * q.den - q.num * p.den).natAbs < 2 ^ 7000 := by
  have t := Int.natAbs_sub_le (p.num * q.den) (q.num * p.den)
  have h1 : p.num.natAbs * q.den < 2 ^ 4000 := lt_mul2 hp.1 hq.2
  have h2 : q.num.natAbs * p.den < 2 ^ 4000 := lt_mul2 hq.1 hp.2
  rw [Int.natAbs_mul, Int.natAbs_mul, Int.natAbs_natCast, Int.natAbs_natCast] at t
  refine lt_pow (j := 4001) ?_
  rw [Nat.pow_succ]
  omega
theorem law_plus : g__law_plus [rq p, rq q] = some (.dat (rq (p + q))) := by
  have m := mk_ok hp hq
  have n := mk_ok hq hp
  have e := law_frac (den_ne p q) (add_lt hp hq) (den_lt hp hq)
  rw [div_add] at e
  unfold g__law_plus f__law_plus
  rw [sim_runD]
  simp only [rq] at e
  simp [slots, rq, m.nd, n.nd, m.dd, e]
theorem law_minus : g__law_minus [rq p, rq q] = some (.dat (rq (p - q))) := by
  have m := mk_ok hp hq
  have n := mk_ok hq hp
  have e := law_frac (den_ne p q) (sub_lt hp hq) (den_lt hp hq)
  rw [div_sub] at e
  unfold g__law_minus f__law_minus
  rw [sim_runD]
  simp only [rq] at e
  simp [slots, rq, m.nd, n.nd, m.dd, e]
theorem nn_lt : (p.num * q.num).natAbs < 2 ^ 7000 := by
  rw [Int.natAbs_mul]
  exact lt_pow (lt_mul2 hp.1 hq.1)
theorem nd_lt : (p.num * q.den).natAbs < 2 ^ 7000 := by
  rw [Int.natAbs_mul, Int.natAbs_natCast]
  exact lt_pow (lt_mul2 hp.1 hq.2)
theorem law_times : g__law_times [rq p, rq q] = some (.dat (rq (p * q))) := by
  have m := mk_ok hp hq
  have e := law_frac (den_ne p q) (nn_lt hp hq) (den_lt hp hq)
  rw [div_mul] at e
  unfold g__law_times f__law_times
  rw [sim_runD]
  simp only [rq] at e
  simp [slots, rq, m.nn, m.dd, e]
theorem law_by_q (h : q ≠ 0) : g__law_by [rq p, rq q] = some (.dat (rq (p / q))) := by
  have m := mk_ok hp hq
  have e := law_frac (dnum_ne (p := p) h) (nd_lt hp hq) (dnum_lt hp hq)
  rw [div_div h] at e
  unfold g__law_by f__law_by
  rw [sim_runD]
  simp only [rq] at e
  simp [slots, rq, m.nd, m.dn, e]
theorem law_below : g__law_below [rq p, rq q] = some (.dat (.bool (decide (p < q)))) := by
  have m := mk_ok hp hq
  have n := mk_ok hq hp
  unfold g__law_below f__law_below
  rw [sim_runD]
  simp [slots, rq, m.nd, n.nd, Rat.lt_iff]
end
/-- what is written as a pair over 1, as a plain pair -/
theorem tup_int (a : Int) : PyData.tuple [.int a, .int 1] = rq (a : Rat) := rfl
theorem made_int {a b : Int} (hb : b ≠ 0) (ha : a.natAbs < 2 ^ 7000) (hb2 : b.natAbs < 2 ^ 7000) : g__law_frac [.int a, .int b] = some (.dat (rq ((a : Rat) / (b : Rat)))) := by
  rw [law_frac hb ha hb2]
  congr 2
  rw [Rat.divInt_eq_div]
end Q13
namespace Q13
open PySem PySem.Spec PyProof.Rows L2 Jd
/-! ### totals -/
def comL : Nat → List Rat → Nat
  | c, [] => c
  | c, q :: r => comL (c / Nat.gcd c q.den * q.den) r
theorem com_step (c : Nat) (q : Rat) (hc : 0 < c) : c ∣ c / Nat.gcd c q.den * q.den ∧ q.den ∣ c / Nat.gcd c q.den * q.den ∧ 0 < c / Nat.gcd c q.den * q.den ∧ c / Nat.gcd c q.den * q.den ≤ c * q.den := by
  have g0 : 0 < Nat.gcd c q.den := Nat.gcd_pos_of_pos_left _ hc
  have d1 := Nat.gcd_dvd_left c q.den
  obtain ⟨m, hm⟩ := Nat.gcd_dvd_right c q.den
  have p := q.den_pos
  refine ⟨⟨m, ?_⟩, Nat.dvd_mul_left .., Nat.mul_pos (Nat.div_pos (Nat.le_of_dvd hc d1) g0) p, Nat.mul_le_mul_right _ (Nat.div_le_self ..)⟩
  conv => lhs; rhs; rw [hm]
  rw [← Nat.mul_assoc, Nat.div_mul_cancel d1]
theorem com_facts : ∀ (qs : List Rat) (c : Nat), 0 < c → 0 < comL c qs ∧ c ∣ comL c qs ∧ ∀ q ∈ qs, q.den ∣ comL c qs
  | [], c, hc => ⟨hc, Nat.dvd_refl _, fun _ h => nomatch h⟩
  | q :: r, c, hc => by
    obtain ⟨s1, s2, s3, _⟩ := com_step c q hc
    obtain ⟨h1, h2, h3⟩ := com_facts r _ s3
    refine ⟨h1, Nat.dvd_trans s1 h2, fun p hp => ?_⟩
    rcases List.mem_cons.mp hp with rfl | hp
    · exact Nat.dvd_trans s2 h2
    · exact h3 p hp
theorem com_lt {k : Nat} : ∀ (qs : List Rat) (c j : Nat), 0 < c → c < 2 ^ j → (∀ q ∈ qs, q.den < 2 ^ k) → comL c qs < 2 ^ (j + k * qs.length)
  | [], c, j, _, h, _ => by simpa [comL] using h
  | q :: r, c, j, hc, h, hq => by
    obtain ⟨_, _, s3, s4⟩ := com_step c q hc
    have l := lt_mul2 h (hq q List.mem_cons_self)
    have := com_lt r _ (j + k) s3 (Nat.lt_of_le_of_lt s4 l) fun p hp => hq p (List.mem_cons_of_mem _ hp)
    have e : j + k + k * r.length = j + k * (q :: r).length := by rw [List.length_cons, Nat.mul_succ]; omega
    rw [e] at this
    exact this
theorem common_loop (L : PyData) : ∀ (qs : List Rat) (c j : Nat) (x2 x3 : Sl), 0 < c → c < 2 ^ j → (∀ q ∈ qs, q.den < 2 ^ 200) → j + 200 * qs.length ≤ 4000 →
    ∃ y2 y3, loopFor (dgT 2 (dgsC (dgN 2) (dgsC (dgN 3) dgs0))) b_common_0 (qs.map rq) [.dat L, .dat (.int c), x2, x3] = some (.nx, [.dat L, .dat (.int (comL c qs : Nat)), y2, y3])
  | [], c, j, x2, x3, _, _, _, _ => ⟨x2, x3, rfl⟩
  | q :: r, c, j, x2, x3, hc, h, hq, hj => by
    obtain ⟨s1, s2, s3, s4⟩ := com_step c q hc
    have hq0 := hq q List.mem_cons_self
    have l := lt_mul2 h hq0
    have hj' : j + 200 * (r.length + 1) ≤ 4000 := hj
    obtain ⟨y2, y3, ih⟩ := common_loop L r _ (j + 200) (.dat (.int q.num)) (.dat (.int q.den)) s3 (Nat.lt_of_le_of_lt s4 l) (fun p hp => hq p (List.mem_cons_of_mem _ hp)) (by omega)
    refine ⟨y2, y3, ?_⟩
    have g0 : 0 < Nat.gcd c q.den := Nat.gcd_pos_of_pos_left _ hc
    have gl : Nat.gcd c q.den < 2 ^ 200 := Nat.lt_of_le_of_lt (Nat.gcd_le_right _ q.den_pos) hq0
    have d1 : divOk ((Nat.gcd c q.den : Nat) : Int) = true := divOk_k (k := 200) (by omega) (by rw [Int.natAbs_natCast]; exact gl)
    have f1 : (c : Int).fdiv ((Nat.gcd c q.den : Nat) : Int) = ((c / Nat.gcd c q.den : Nat) : Int) := by rw [Int.fdiv_eq_ediv_of_nonneg _ (by omega)]; rfl
    have m1 : mulOk ((c / Nat.gcd c q.den : Nat) : Int) (q.den : Int) = true := by
      have a1 := log2_le (Nat.lt_of_le_of_lt (Nat.div_le_self c (Nat.gcd c q.den)) h)
      have a2 := log2_le hq0
      exact decide_eq_true (by rw [Int.natAbs_natCast, Int.natAbs_natCast]; omega)
    have e1 : (((c / Nat.gcd c q.den : Nat) : Int) * (q.den : Int)) = ((c / Nat.gcd c q.den * q.den : Nat) : Int) := by rw [Int.natCast_mul]
    rw [List.map_cons]
    have t : dgT 2 (dgsC (dgN 2) (dgsC (dgN 3) dgs0)) (rq q) [.dat L, .dat (.int c), x2, x3] = some [.dat L, .dat (.int c), .dat (.int q.num), .dat (.int q.den)] := rfl
    have body : b_common_0 [.dat L, .dat (.int c), .dat (.int q.num), .dat (.int q.den)] = some (.nx, [.dat L, .dat (.int ((c / Nat.gcd c q.den * q.den : Nat) : Int)), .dat (.int q.num), .dat (.int q.den)]) := by
      unfold b_common_0
      simp [d1]
      rw [f1, m1]
      simp
    rw [loop_cons t, body, stepK_nx]
    exact ih
theorem common {qs : List Rat} (hq : ∀ q ∈ qs, q.den < 2 ^ 200) (hl : qs.length ≤ 12) : g_common [.list (qs.map rq)] = some (.dat (.int (comL 1 qs : Nat))) := by
  obtain ⟨y2, y3, e⟩ := common_loop (.list (qs.map rq)) qs 1 1 .un .un (by omega) (by decide) hq (by omega)
  unfold g_common f_common
  rw [sim_runD]
  simp at e
  simp [slots, e]
theorem sum_ints (l : List Int) : gSum [.list (l.map PyData.int)] = some (.int l.sum) := by
  show ((asInts (l.map PyData.int)).map _) = _
  rw [asInts_map]
  rfl
theorem sum_part {C : Nat} (hC : 0 < C) : ∀ qs : List Rat, (∀ q ∈ qs, q.den ∣ C) → sumQ qs = (((qs.map fun q => q.num * ((C / q.den : Nat) : Int)).sum : Int) : Rat) / ((C : Int) : Rat)
  | [], _ => by
    have := dq_ne hC
    show (0 : Rat) = ((0 : Int) : Rat) / _
    have z : ((0 : Int) : Rat) = 0 := rfl
    rw [z]; grind
  | q :: r, h => by
    have ih := sum_part hC r fun p hp => h p (List.mem_cons_of_mem _ hp)
    obtain ⟨m, hm⟩ := h q List.mem_cons_self
    have cq := dq_ne hC
    have dp := dq_ne q.den_pos
    have e1 : C / q.den = m := by rw [hm, Nat.mul_div_cancel_left _ q.den_pos]
    have eC : ((C : Int) : Rat) = ((q.den : Int) : Rat) * ((m : Int) : Rat) := by rw [hm, Int.natCast_mul, Rat.intCast_mul]
    have eq : q = (q.num : Rat) / ((q.den : Int) : Rat) := by rw [← Rat.divInt_eq_div, Rat.num_divInt_den]
    show q + sumQ r = _
    rw [List.map_cons, List.sum_cons, Rat.intCast_add, ih, e1, Rat.intCast_mul]
    have mq : ((m : Int) : Rat) ≠ 0 := by intro z; rw [z] at eC; rw [eC] at cq; grind
    generalize (((r.map fun q => q.num * ((C / q.den : Nat) : Int)).sum : Int) : Rat) = S at *
    rw [eC]
    conv => lhs; lhs; rw [eq]
    grind
theorem r_total {qs : List Rat} (hq : ∀ q ∈ qs, Bq 200 q) (hl : qs.length ≤ 12) : g_r_total [.list (qs.map rq)] = some (.dat (rq (sumQ qs))) := by
  have hd : ∀ q ∈ qs, q.den < 2 ^ 200 := fun q h => (hq q h).2
  obtain ⟨c0, _, c2⟩ := com_facts qs 1 (by omega)
  have cl := com_lt qs 1 1 (by omega) (by decide) hd
  have cl2 : comL 1 qs < 2 ^ 2500 := Nat.lt_of_lt_of_le cl (Nat.pow_le_pow_right (by omega) (by omega))
  have cm := common hd hl
  generalize comL 1 qs = C at *
  have e : loopLc [2, 3] (dgT 2 (dgsC (dgN 2) (dgsC (dgN 3) dgs0))) dYes (dOp gMul (dPv 2) (dAg (dOp gDiv (dPv 1) (dPv 3)))) (qs.map rq) [.dat (.list (qs.map rq)), .dat (.int C), .un, .un] = some (qs.map fun q => .int (q.num * ((C / q.den : Nat) : Int)), [.dat (.list (qs.map rq)), .dat (.int C), .un, .un]) :=
    loopLc_map qs fun q hm => ⟨_, rfl, rfl, by
      have b := hq q hm
      have d1 : divOk (q.den : Int) = true := divOk_k (k := 200) (by have := q.den_pos; omega) (by rw [Int.natAbs_natCast]; exact b.2)
      have f1 : (C : Int).fdiv (q.den : Int) = ((C / q.den : Nat) : Int) := by rw [Int.fdiv_eq_ediv_of_nonneg _ (by omega)]; rfl
      have m1 : mulOk q.num ((C / q.den : Nat) : Int) = true := mulOk_k (j := 200) (k := 2500) b.1 (by rw [Int.natAbs_natCast]; exact Nat.lt_of_le_of_lt (Nat.div_le_self ..) cl2)
      simp [d1]
      rw [f1, m1]
      simp, rfl⟩
  have hb1 : qs.length ≤ big := by have : big = 1000000 := rfl; omega
  have sm := sum_ints (qs.map fun q => q.num * ((C / q.den : Nat) : Int))
  rw [List.map_map] at sm
  have mk := made_q (a := (qs.map fun q => q.num * ((C / q.den : Nat) : Int)).sum) (b := (C : Int)) (by omega) (by rw [Int.natAbs_natCast]; exact lt_pow (j := 2500) cl2)
  rw [Rat.divInt_eq_div, ← sum_part c0 qs c2] at mk
  have c : c_r_total_0 [.dat (.list (qs.map rq)), .dat (.int C), .un, .un] = some (qs.map fun q => .int (q.num * ((C / q.den : Nat) : Int)), [.dat (.list (qs.map rq)), .dat (.int C), .un, .un]) := by
    unfold c_r_total_0
    simp [e, hb1]
  have sm' : gSum [.list (qs.map fun q => .int (q.num * ((C / q.den : Nat) : Int)))] = some (.int (qs.map fun q => q.num * ((C / q.den : Nat) : Int)).sum) := sm
  generalize (qs.map fun q => q.num * ((C / q.den : Nat) : Int)).sum = T at *
  generalize (qs.map fun q => PyData.int (q.num * ((C / q.den : Nat) : Int))) = LT at *
  unfold g_r_total f_r_total
  rw [sim_runD]
  simp [slots, cm, c, sm', mk]
end Q13
namespace Q13
open PySem PySem.Spec PyProof.Rows L2 Jd
/-! ### the numbers -/
def Nv (xs : List Rat) (x : Rat) : Rat := (pd x xs)⁻¹
theorem cut_to (ds : List PyData) {i : Nat} (h : i ≤ ds.length) : Jd.cutD ds none (some (i : Int)) = ds.take i := by
  unfold Jd.cutD
  rw [HT.sIx_nat, Nat.min_eq_left h]
  show (ds.drop 0).take (i - 0) = _
  rw [List.drop_zero, Nat.sub_zero]
theorem cut_from (ds : List PyData) {i : Nat} (h : i ≤ ds.length) : Jd.cutD ds (some (i : Int)) none = ds.drop i := by
  unfold Jd.cutD
  rw [HT.sIx_nat, Nat.min_eq_left h]
  show (ds.drop i).take (ds.length - i) = _
  rw [List.take_of_length_le (by rw [List.length_drop]; omega)]
theorem add_l {a b : List PyData} (h : a.length + b.length ≤ 1000) : gAdd (.list a) (.list b) = some (.list (a ++ b)) := by
  show (if a.length + b.length ≤ big then _ else _) = _
  rw [if_pos (by show _ ≤ 1000000; omega)]
theorem pd_mid {x : Rat} {pre post : List Rat} (h1 : x ∉ pre) (h2 : x ∉ post) : pd x (pre ++ x :: post) = prodQ ((pre ++ post).map (x - ·)) := by
  have go : ∀ l : List Rat, x ∉ l → pd x l = prodQ (l.map (x - ·)) := fun l => by
    induction l with
    | nil => intro _; rfl
    | cons y l ih =>
      intro h
      have e : fac x y = x - y := if_neg fun e => h (by rw [e]; exact List.mem_cons_self)
      show fac x y * pd x l = (x - y) * prodQ (l.map (x - ·))
      rw [e, ih fun q => h (List.mem_cons_of_mem _ q)]
  have e0 : fac x x = 1 := if_pos rfl
  rw [pd_app, List.map_append, prod_app, ← go pre h1, ← go post h2]
  show pd x pre * (fac x x * pd x post) = _
  rw [e0]; grind
theorem one_b : Bq 1 (1 : Rat) := by
  have : Bq 1 ((1 : Int) : Rat) := Bq.int (a := 1) (by decide) (by decide)
  exact this
theorem one_rq : PyData.tuple [.int 1, .int 1] = rq 1 := rfl
theorem zero_rq : PyData.tuple [.int 0, .int 1] = rq 0 := rfl
theorem prog_in (x0 x1 x2 : Sl) {x : Rat} (hx : Six x) : ∀ (l : List Rat) (nm : Rat) (b : Nat) (x5 : Sl), (∀ y ∈ l, Six y) → Bq b nm → b + 21 * l.length ≤ 1900 →
    ∃ y5, loopFor (dgN 5) b_numbers_by_0 (l.map rq) [x0, x1, x2, .dat (rq x), .dat (rq nm), x5] = some (.nx, [x0, x1, x2, .dat (rq x), .dat (rq (nm * prodQ (l.map (x - ·)))), y5]) ∧ Bq (b + 21 * l.length) (nm * prodQ (l.map (x - ·)))
  | [], nm, b, x5, _, hb, _ => by
    have e : nm * prodQ (([] : List Rat).map (x - ·)) = nm := by show nm * 1 = nm; grind
    rw [e]
    exact ⟨x5, rfl, hb⟩
  | y :: l, nm, b, x5, hl, hb, hs => by
    have hy := hl y List.mem_cons_self
    have hs' : b + 21 * (l.length + 1) ≤ 1900 := hs
    have bd := hx.b.sub hy.b
    have m := r_minus (hx.b.mono (by decide)) (hy.b.mono (by decide))
    have t := r_times (hb.mono (by omega)) (bd.mono (by decide))
    obtain ⟨y5, ih, ib⟩ := prog_in x0 x1 x2 hx l (nm * (x - y)) (b + 21) (.dat (rq y)) (fun z hz => hl z (List.mem_cons_of_mem _ hz)) (hb.mul bd) (by omega)
    have e : nm * prodQ ((y :: l).map (x - ·)) = nm * (x - y) * prodQ (l.map (x - ·)) := by show nm * ((x - y) * prodQ (l.map (x - ·))) = _; grind
    rw [e]
    refine ⟨y5, ?_, by rw [show b + 21 * (y :: l).length = b + 21 + 21 * l.length by rw [List.length_cons]; omega]; exact ib⟩
    rw [List.map_cons, loop_cons (sim_gN ..)]
    have body : b_numbers_by_0 [x0, x1, x2, .dat (rq x), .dat (rq nm), .dat (rq y)] = some (.nx, [x0, x1, x2, .dat (rq x), .dat (rq (nm * (x - y))), .dat (rq y)]) := by
      unfold b_numbers_by_0
      simp [m, t]
    show stepK (b_numbers_by_0 [x0, x1, x2, .dat (rq x), .dat (rq nm), .dat (rq y)]) _ _ _ = _
    rw [body, stepK_nx]
    exact ih
structure Nm (xs : List Rat) : Prop where
  nd : xs.Nodup
  most : xs.length ≤ 6
  six : ∀ x ∈ xs, Six x
theorem PlOk.nm {xs : List Rat} (h : PlOk xs) : Nm xs := ⟨h.nd, h.most, h.six⟩
theorem mid_facts {pre post : List Rat} {x : Rat} (nd : (pre ++ x :: post).Nodup) : x ∉ pre ∧ x ∉ post :=
  ⟨fun hx => (List.nodup_append.mp nd).2.2 x hx x List.mem_cons_self rfl, (List.nodup_cons.mp (List.nodup_append.mp nd).2.1).1⟩
theorem nv_b {xs : List Rat} (h : Nm xs) {x : Rat} (hx : x ∈ xs) : Bq 110 (Nv xs x) := by
  obtain ⟨pre, post, rfl⟩ := List.append_of_mem hx
  obtain ⟨h1, h2⟩ := mid_facts h.nd
  have hm := h.most
  simp at hm
  obtain ⟨_, _, b⟩ := prog_in .un .un .un (h.six x hx) (pre ++ post) 1 1 .un (fun y hy => h.six y (by
    rcases List.mem_append.mp hy with q | q
    · exact List.mem_append.mpr (.inl q)
    · exact List.mem_append.mpr (.inr (List.mem_cons_of_mem _ q)))) one_b (by simp; omega)
  have ne := pd_ne x (pre ++ x :: post)
  unfold Nv
  rw [pd_mid h1 h2] at ne ⊢
  rw [Rat.one_mul] at b
  have d := one_b.div b ne
  rw [Rat.div_def, Rat.one_mul] at d
  exact d.mono (by simp; omega)
theorem prog_loop {xs : List Rat} (h : Nm xs) : ∀ (post pre : List Rat) (x2 x3 x4 x5 : Sl), xs = pre ++ post →
    ∃ y2 y3 y4 y5, loopFor (dgT 2 (dgsC (dgN 2) (dgsC (dgN 3) dgs0))) b_numbers_by_1 (enumD pre.length (post.map rq)) [.dat (.list (xs.map rq)), .own false (pre.map fun x => rq (Nv xs x)), x2, x3, x4, x5] =
      some (.nx, [.dat (.list (xs.map rq)), .own false (xs.map fun x => rq (Nv xs x)), y2, y3, y4, y5])
  | [], pre, x2, x3, x4, x5, e => by
    rw [List.append_nil] at e
    rw [e]
    exact ⟨x2, x3, x4, x5, rfl⟩
  | x :: post, pre, x2, x3, x4, x5, e => by
    have hm := h.most
    have nd := h.nd
    have hx : x ∈ xs := by rw [e]; simp
    have six := h.six
    rw [e] at nd
    obtain ⟨h1, h2⟩ := mid_facts nd
    have lx : xs.length = pre.length + (post.length + 1) := by rw [e]; simp
    obtain ⟨y5, e1, b1⟩ := prog_in (.dat (.list (xs.map rq))) (.own false (pre.map fun x => rq (Nv xs x))) (.dat (.int pre.length)) (six x hx) (pre ++ post) 1 1 x5 (fun y hy => six y (by
      rw [e]
      rcases List.mem_append.mp hy with q | q
      · exact List.mem_append.mpr (.inl q)
      · exact List.mem_append.mpr (.inr (List.mem_cons_of_mem _ q)))) one_b (by simp; omega)
    have ne := pd_ne x xs
    have ep : pd x xs = 1 * prodQ ((pre ++ post).map (x - ·)) := by rw [e, pd_mid h1 h2, Rat.one_mul]
    rw [← ep] at e1 b1
    have ov := r_over (one_b.mono (by decide)) (b1.mono (by simp; omega)) ne
    rw [Rat.div_def, Rat.one_mul] at ov
    change g_r_over [rq 1, rq (pd x xs)] = some (Rv.dat (rq (Nv xs x))) at ov
    obtain ⟨z2, z3, z4, z5, ih⟩ := prog_loop h post (pre ++ [x]) (.dat (.int pre.length)) (.dat (rq x)) (.dat (rq (pd x xs))) y5 (by rw [e]; simp)
    refine ⟨z2, z3, z4, z5, ?_⟩
    have c1 : Jd.cutD (xs.map rq) none (some (pre.length : Int)) = pre.map rq := by
      rw [cut_to _ (by rw [List.length_map]; omega), e, List.map_append, List.take_left' (by simp)]
    have c2 : Jd.cutD (xs.map rq) (some ((pre.length : Int) + 1)) none = post.map rq := by
      have := cut_from (xs.map rq) (i := pre.length + 1) (by rw [List.length_map]; omega)
      rw [show ((pre.length + 1 : Nat) : Int) = (pre.length : Int) + 1 by omega] at this
      rw [this, e, List.map_append, List.map_cons, List.drop_append]
      simp
    have ad := add_l (a := pre.map rq) (b := post.map rq) (by simp; omega)
    have fb : pre.length < big := by show _ < 1000000; omega
    rw [List.map_append] at e1
    have body : b_numbers_by_1 [.dat (.list (xs.map rq)), .own false (pre.map fun x => rq (Nv xs x)), .dat (.int pre.length), .dat (rq x), x4, x5] = some (.nx, [.dat (.list (xs.map rq)), .own false (pre.map (fun x => rq (Nv xs x)) ++ [rq (Nv xs x)]), .dat (.int pre.length), .dat (rq x), .dat (rq (pd x xs)), y5]) := by
      unfold b_numbers_by_1
      simp [c1, c2, ad, one_rq, e1, ov, fb]
    show loopFor _ _ (.tuple [.int (pre.length : Nat), rq x] :: enumD (pre.length + 1) (post.map rq)) _ = _
    rw [loop_cons (G1 := [.dat (.list (xs.map rq)), .own false (pre.map fun x => rq (Nv xs x)), .dat (.int pre.length), .dat (rq x), x4, x5]) rfl, body, stepK_nx]
    rw [List.length_append, List.map_append] at ih
    exact ih
theorem numbers_by {xs : List Rat} (h : Nm xs) : g_numbers_by [.list (xs.map rq)] = some (.new (xs.map fun x => rq (Nv xs x))) := by
  obtain ⟨y2, y3, y4, y5, e⟩ := prog_loop h xs [] .un .un .un .un rfl
  simp at e
  unfold g_numbers_by f_numbers_by
  rw [sim_runD]
  simp [slots, e]
end Q13
namespace Q13
open PySem PySem.Spec PyProof.Rows L2 Jd
/-! ### own numbers -/
theorem own_in (x0 x1 : Sl) {x : Rat} (hx : Six x) (i : Nat) : ∀ (l : List Rat) (k : Nat) (nm : Rat) (b : Nat) (x5 x6 : Sl), (∀ y ∈ l, Six y) → (∀ m (hm : m < l.length), k + m = i ↔ l[m] = x) → Bq b nm → b + 21 * l.length ≤ 1900 →
    ∃ y5 y6, loopFor (dgT 2 (dgsC (dgN 5) (dgsC (dgN 6) dgs0))) b__law_numbers_0 (enumD k (l.map rq)) [x0, x1, .dat (.int i), .dat (rq x), .dat (rq nm), x5, x6] = some (.nx, [x0, x1, .dat (.int i), .dat (rq x), .dat (rq (nm * (pd x l)⁻¹)), y5, y6])
  | [], k, nm, b, x5, x6, _, _, _, _ => by
    have e : nm * (pd x [])⁻¹ = nm := by show nm * (1 : Rat)⁻¹ = nm; grind
    rw [e]
    exact ⟨x5, x6, rfl⟩
  | y :: l, k, nm, b, x5, x6, hl, hm, hb, hs => by
    have hy := hl y List.mem_cons_self
    have hs' : b + 21 * (l.length + 1) ≤ 1900 := hs
    have h0 := hm 0 (by simp)
    have h0' : k = i ↔ y = x := h0
    have hrest : ∀ m (h : m < l.length), k + 1 + m = i ↔ l[m] = x := fun m h => by
      have := hm (m + 1) (by simp; omega)
      rw [show k + 1 + m = k + (m + 1) by omega]
      exact this
    have t : dgT 2 (dgsC (dgN 5) (dgsC (dgN 6) dgs0)) (.tuple [.int (k : Nat), rq y]) [x0, x1, .dat (.int i), .dat (rq x), .dat (rq nm), x5, x6] = some [x0, x1, .dat (.int i), .dat (rq x), .dat (rq nm), .dat (.int k), .dat (rq y)] := rfl
    show ∃ y5 y6, loopFor _ _ (.tuple [.int (k : Nat), rq y] :: enumD (k + 1) (l.map rq)) _ = _
    by_cases c : y = x
    · have ki : k = i := h0'.mpr c
      have ef : fac x y = 1 := if_pos c
      have e : nm * (pd x (y :: l))⁻¹ = nm * (pd x l)⁻¹ := by show nm * (fac x y * pd x l)⁻¹ = _; rw [ef, Rat.one_mul]
      obtain ⟨y5, y6, ih⟩ := own_in x0 x1 hx i l (k + 1) nm b (.dat (.int k)) (.dat (rq y)) (fun z hz => hl z (List.mem_cons_of_mem _ hz)) hrest hb (by omega)
      refine ⟨y5, y6, ?_⟩
      have body : b__law_numbers_0 [x0, x1, .dat (.int i), .dat (rq x), .dat (rq nm), .dat (.int k), .dat (rq y)] = some (.nx, [x0, x1, .dat (.int i), .dat (rq x), .dat (rq nm), .dat (.int k), .dat (rq y)]) := by
        unfold b__law_numbers_0
        simp [ki]
      rw [loop_cons t, body, stepK_nx, e]
      exact ih
    · have ki : ¬ k = i := fun q => c (h0'.mp q)
      have ki' : ¬ (k : Int) = i := by omega
      have ef : fac x y = x - y := if_neg c
      have ne : x - y ≠ 0 := by grind
      have bd := hx.b.sub hy.b
      have m := law_minus (hx.b.mono (by decide)) (hy.b.mono (by decide))
      have o := law_by_q (hb.mono (by omega)) (bd.mono (by decide)) ne
      have p := pd_ne x l
      have e : nm * (pd x (y :: l))⁻¹ = nm / (x - y) * (pd x l)⁻¹ := by
        show nm * (fac x y * pd x l)⁻¹ = _
        rw [ef, Rat.inv_mul_rev, Rat.div_def]
        grind
      obtain ⟨y5, y6, ih⟩ := own_in x0 x1 hx i l (k + 1) (nm / (x - y)) (b + 21) (.dat (.int k)) (.dat (rq y)) (fun z hz => hl z (List.mem_cons_of_mem _ hz)) hrest (hb.div bd ne) (by omega)
      refine ⟨y5, y6, ?_⟩
      have body : b__law_numbers_0 [x0, x1, .dat (.int i), .dat (rq x), .dat (rq nm), .dat (.int k), .dat (rq y)] = some (.nx, [x0, x1, .dat (.int i), .dat (rq x), .dat (rq (nm / (x - y))), .dat (.int k), .dat (rq y)]) := by
        unfold b__law_numbers_0
        simp [ki', ki, m, o]
      rw [loop_cons t, body, stepK_nx, e]
      exact ih
theorem own_loop {xs : List Rat} (h : Nm xs) : ∀ (post pre : List Rat) (x2 x3 x4 x5 x6 : Sl), xs = pre ++ post →
    ∃ y2 y3 y4 y5 y6, loopFor (dgT 2 (dgsC (dgN 2) (dgsC (dgN 3) dgs0))) b__law_numbers_1 (enumD pre.length (post.map rq)) [.dat (.list (xs.map rq)), .own false (pre.map fun x => rq (Nv xs x)), x2, x3, x4, x5, x6] =
      some (.nx, [.dat (.list (xs.map rq)), .own false (xs.map fun x => rq (Nv xs x)), y2, y3, y4, y5, y6])
  | [], pre, x2, x3, x4, x5, x6, e => by
    rw [List.append_nil] at e
    rw [e]
    exact ⟨x2, x3, x4, x5, x6, rfl⟩
  | x :: post, pre, x2, x3, x4, x5, x6, e => by
    have hm := h.most
    have lx : xs.length = pre.length + (post.length + 1) := by rw [e]; simp
    have xi : xs[pre.length]'(by omega) = x := by simp [e]
    obtain ⟨y5, y6, e1⟩ := own_in (.dat (.list (xs.map rq))) (.own false (pre.map fun x => rq (Nv xs x))) (h.six x (by rw [e]; simp)) pre.length xs 0 1 1 x5 x6 h.six (fun m hm => by
      rw [Nat.zero_add]
      constructor
      · intro q; subst q; exact xi
      · intro q
        rw [← xi] at q
        exact (List.getElem_inj h.nd).mp q) one_b (by omega)
    rw [Rat.one_mul] at e1
    obtain ⟨z2, z3, z4, z5, z6, ih⟩ := own_loop h post (pre ++ [x]) (.dat (.int pre.length)) (.dat (rq x)) (.dat (rq (pd x xs)⁻¹)) y5 y6 (by rw [e]; simp)
    refine ⟨z2, z3, z4, z5, z6, ?_⟩
    have fb : pre.length < big := by show _ < 1000000; omega
    have body : b__law_numbers_1 [.dat (.list (xs.map rq)), .own false (pre.map fun x => rq (Nv xs x)), .dat (.int pre.length), .dat (rq x), x4, x5, x6] = some (.nx, [.dat (.list (xs.map rq)), .own false (pre.map (fun x => rq (Nv xs x)) ++ [rq (Nv xs x)]), .dat (.int pre.length), .dat (rq x), .dat (rq (pd x xs)⁻¹), y5, y6]) := by
      unfold b__law_numbers_1
      simp [one_rq, e1, fb]
      rfl
    show loopFor _ _ (.tuple [.int (pre.length : Nat), rq x] :: enumD (pre.length + 1) (post.map rq)) _ = _
    rw [loop_cons (G1 := [.dat (.list (xs.map rq)), .own false (pre.map fun x => rq (Nv xs x)), .dat (.int pre.length), .dat (rq x), x4, x5, x6]) rfl, body, stepK_nx]
    rw [List.length_append, List.map_append] at ih
    exact ih
theorem law_numbers {xs : List Rat} (h : Nm xs) : g__law_numbers [.list (xs.map rq)] = some (.new (xs.map fun x => rq (Nv xs x))) := by
  obtain ⟨y2, y3, y4, y5, y6, e⟩ := own_loop h xs [] .un .un .un .un .un rfl
  simp at e
  unfold g__law_numbers f__law_numbers
  rw [sim_runD]
  simp [slots, e]
/-! ### dots -/
theorem zip_same {α : Type} {f g : α → PyData} : ∀ l : List α, zipD (l.map f) (l.map g) = l.map fun x => .tuple [f x, g x]
  | [] => rfl
  | x :: l => by
    show .tuple [f x, g x] :: zipD (l.map f) (l.map g) = _
    rw [zip_same l]; rfl
theorem dot_loop {α : Type} {u v : α → Rat} (x0 x1 : Sl) {bu bv : Nat} : ∀ (l : List α) (acc : Rat) (b : Nat) (x3 x4 : Sl), (∀ a ∈ l, Bq bu (u a) ∧ Bq bv (v a)) → Bq b acc → b + (bu + bv + 1) * l.length ≤ 1900 → bu + bv ≤ 1900 →
    ∃ y3 y4, loopFor (dgT 2 (dgsC (dgN 3) (dgsC (dgN 4) dgs0))) b__law_dot_0 (l.map fun a => .tuple [rq (u a), rq (v a)]) [x0, x1, .dat (rq acc), x3, x4] = some (.nx, [x0, x1, .dat (rq (acc + sumQ (l.map fun a => u a * v a))), y3, y4])
  | [], acc, b, x3, x4, _, _, _, _ => by
    have e : acc + sumQ (([] : List α).map fun a => u a * v a) = acc := by show acc + 0 = acc; grind
    rw [e]
    exact ⟨x3, x4, rfl⟩
  | a :: l, acc, b, x3, x4, h, hb, hs, hu => by
    obtain ⟨h1, h2⟩ := h a List.mem_cons_self
    have hs' : b + (bu + bv + 1) * (l.length + 1) ≤ 1900 := hs
    rw [Nat.mul_succ] at hs'
    have ti := law_times (h1.mono (by omega)) (h2.mono (by omega))
    have pl := law_plus (hb.mono (by omega)) ((h1.mul h2).mono (by omega))
    obtain ⟨y3, y4, ih⟩ := dot_loop x0 x1 l (acc + u a * v a) (b + (bu + bv + 1)) (.dat (rq (u a))) (.dat (rq (v a))) (fun z hz => h z (List.mem_cons_of_mem _ hz)) (by rw [← Nat.add_assoc]; exact hb.add (h1.mul h2)) (by omega) hu
    refine ⟨y3, y4, ?_⟩
    have e : acc + sumQ ((a :: l).map fun a => u a * v a) = acc + u a * v a + sumQ (l.map fun a => u a * v a) := by show acc + (u a * v a + sumQ (l.map fun a => u a * v a)) = _; grind
    rw [e, List.map_cons, loop_cons (G1 := [x0, x1, .dat (rq acc), .dat (rq (u a)), .dat (rq (v a))]) rfl]
    have body : b__law_dot_0 [x0, x1, .dat (rq acc), .dat (rq (u a)), .dat (rq (v a))] = some (.nx, [x0, x1, .dat (rq (acc + u a * v a)), .dat (rq (u a)), .dat (rq (v a))]) := by
      unfold b__law_dot_0
      simp [ti, pl]
    rw [body, stepK_nx]
    exact ih
theorem zero_b : Bq 1 (0 : Rat) := Bq.int (a := 0) (by decide) (by decide)
theorem law_dot {α : Type} {u v : α → Rat} {bu bv : Nat} {l : List α} (h : ∀ a ∈ l, Bq bu (u a) ∧ Bq bv (v a)) (hl : l.length ≤ 6) (hb : 1 + (bu + bv + 1) * 6 ≤ 1900) : g__law_dot [.list (l.map fun a => rq (u a)), .list (l.map fun a => rq (v a))] = some (.dat (rq (sumQ (l.map fun a => u a * v a)))) := by
  have hm : (bu + bv + 1) * l.length ≤ (bu + bv + 1) * 6 := Nat.mul_le_mul_left _ hl
  obtain ⟨y3, y4, e⟩ := dot_loop (.dat (.list (l.map fun a => rq (u a)))) (.dat (.list (l.map fun a => rq (v a)))) l 0 1 .un .un h zero_b (by omega) (by omega)
  rw [Rat.zero_add] at e
  have z := zip_same (f := fun a => rq (u a)) (g := fun a => rq (v a)) l
  rw [← z] at e
  unfold g__law_dot f__law_dot
  rw [sim_runD]
  simp [slots, zero_rq, e]
theorem r_dot {α : Type} {u v : α → Rat} {bu bv : Nat} {l : List α} (h : ∀ a ∈ l, Bq bu (u a) ∧ Bq bv (v a)) (hl : l.length ≤ 6) (hb : bu + bv ≤ 200) : g_r_dot [.list (l.map fun a => rq (u a)), .list (l.map fun a => rq (v a))] = some (.dat (rq (sumQ (l.map fun a => u a * v a)))) := by
  have z := zip_same (f := fun a => rq (u a)) (g := fun a => rq (v a)) l
  have e : loopLc [2, 3] (dgT 2 (dgsC (dgN 2) (dgsC (dgN 3) dgs0))) dYes (dCall 2 g_r_times (dEsC (dVar 2) (dEsC (dVar 3) dEs0))) (l.map fun a => .tuple [rq (u a), rq (v a)]) [.dat (.list (l.map fun a => rq (u a))), .dat (.list (l.map fun a => rq (v a))), .un, .un] =
      some (l.map fun a => rq (u a * v a), [.dat (.list (l.map fun a => rq (u a))), .dat (.list (l.map fun a => rq (v a))), .un, .un]) :=
    loopLc_map l fun a ha => ⟨_, rfl, rfl, by
      obtain ⟨h1, h2⟩ := h a ha
      have ti := r_times (h1.mono (show bu ≤ 2000 by omega)) (h2.mono (show bv ≤ 2000 by omega))
      simp [ti], rfl⟩
  have hb1 : l.length ≤ big := by have : big = 1000000 := rfl; omega
  have hz : (zipD (l.map fun a => rq (u a)) (l.map fun a => rq (v a))).length ≤ big := by rw [z, List.length_map]; exact hb1
  have c : c_r_dot_0 [.dat (.list (l.map fun a => rq (u a))), .dat (.list (l.map fun a => rq (v a))), .un, .un] = some (l.map fun a => rq (u a * v a), [.dat (.list (l.map fun a => rq (u a))), .dat (.list (l.map fun a => rq (v a))), .un, .un]) := by
    unfold c_r_dot_0
    simp [z, e, hb1]
  have t := r_total (qs := l.map fun a => u a * v a) (fun q hq => by
    obtain ⟨a, ha, rfl⟩ := List.mem_map.mp hq
    obtain ⟨h1, h2⟩ := h a ha
    exact (h1.mul h2).mono hb) (by rw [List.length_map]; omega)
  rw [List.map_map] at t
  have t' : g_r_total [.list (l.map fun a => rq (u a * v a))] = some (.dat (rq (sumQ (l.map fun a => u a * v a)))) := t
  unfold g_r_dot f_r_dot
  rw [sim_runD]
  simp [slots, c, t']
end Q13
namespace Q13
open PySem PySem.Spec PyProof.Rows L2 Jd
/-! ### bounds of differences -/
def Wo (w : Rat) : Prop := Dv (6 ^ 6) (2 ^ 53) w
theorem Wo.b {w : Rat} (h : Wo w) : Bq 60 w := h.bq (by decide) (by decide) (by decide)
theorem PlOk.sub {xs l : List Rat} (h : PlOk xs) (s : l.Sublist xs) (n : l ≠ []) : PlOk l :=
  ⟨List.length_pos_iff.mpr n, Nat.le_trans s.length_le h.most, h.up.sublist s, fun x hx => h.six x (s.subset hx), fun x hx y hy => h.near x (s.subset hx) y (s.subset hy)⟩
theorem pd_dv {x : Rat} (hx : Six x) : ∀ l : List Rat, (∀ y ∈ l, Six y ∧ x - y ≤ 15 ∧ y - x ≤ 15) → Dv (Lc ^ l.length) ((6 * Lc) ^ l.length) (pd x l)⁻¹
  | [], _ => ⟨1, by show (1 : Rat)⁻¹ = ((1 : Int) : Rat) / ((1 : Int) : Rat); have : ((1 : Int) : Rat) = 1 := rfl; rw [this]; grind, by decide⟩
  | y :: l, h => by
    obtain ⟨h1, h2, h3⟩ := h y List.mem_cons_self
    have ih := pd_dv hx l fun z hz => h z (List.mem_cons_of_mem _ hz)
    have lp := Lc_pos
    have f : Dv Lc (6 * Lc) (fac x y)⁻¹ := by
      unfold fac
      by_cases c : y = x
      · rw [if_pos c]
        refine ⟨Lc, ?_, by rw [Int.natAbs_natCast]; omega⟩
        have := dq_ne lp
        grind
      · rw [if_neg c]
        exact inv_dv hx h1 (fun e => c e.symm) h2 h3
    have m := ih.mul f (Nat.pow_pos lp) lp
    rw [List.length_cons, Nat.pow_succ, Nat.pow_succ]
    have e : (pd x (y :: l))⁻¹ = (pd x l)⁻¹ * (fac x y)⁻¹ := by
      show (fac x y * pd x l)⁻¹ = _
      rw [Rat.inv_mul_rev]
    rw [e]
    exact m
def Ed : Nat := 6 ^ 6 * Lc ^ 6
def Ad : Nat := 6 * (2 ^ 53 * (6 * Lc) ^ 6)
theorem Ed_pos : 0 < Ed := by decide +kernel
theorem Ed_lt : Ed < 2 ^ 850 := by decide +kernel
theorem Ad_lt : Ad < 2 ^ 850 := by decide +kernel
theorem sum_dv {d N : Nat} {f : Rat → Rat} : ∀ l : List Rat, 0 < d → (∀ x ∈ l, Dv d N (f x)) → Dv d (l.length * N) (sumQ (l.map f))
  | [], hd, _ => ⟨0, by show (0 : Rat) = ((0 : Int) : Rat) / _; have z : ((0 : Int) : Rat) = 0 := rfl; have := dq_ne hd; rw [z]; grind, by simp⟩
  | x :: l, hd, h => by
    have := (h x List.mem_cons_self).add (sum_dv l hd fun y hy => h y (List.mem_cons_of_mem _ hy))
    rw [List.length_cons, Nat.succ_mul, Nat.add_comm]
    exact this
theorem D_dv {xs : List Rat} (h : PlOk xs) {f : Rat → Rat} (hf : ∀ x ∈ xs, Wo (f x)) : Dv Ed Ad (D xs f) := by
  have hm := h.most
  have lp := Lc_pos
  have t : ∀ x ∈ xs, Dv Ed (2 ^ 53 * (6 * Lc) ^ 6) (f x * (pd x xs)⁻¹) := fun x hx => by
    have p := pd_dv (h.six x hx) xs fun y hy => ⟨h.six y hy, h.near x hx y hy, h.near y hy x hx⟩
    have s := p.scale (Lc ^ (6 - xs.length)) (Nat.pow_pos lp) (Nat.pow_pos lp)
    rw [← Nat.pow_add, show xs.length + (6 - xs.length) = 6 by omega] at s
    have l1 : (6 * Lc) ^ xs.length * Lc ^ (6 - xs.length) ≤ (6 * Lc) ^ 6 := by
      have a := Nat.mul_le_mul_left ((6 * Lc) ^ xs.length) (Nat.pow_le_pow_left (show Lc ≤ 6 * Lc by omega) (6 - xs.length))
      rw [← Nat.pow_add, show xs.length + (6 - xs.length) = 6 by omega] at a
      exact a
    exact (hf x hx).mul (s.mono l1) (by decide) (Nat.pow_pos lp)
  have s := sum_dv xs Ed_pos t
  exact s.mono (Nat.mul_le_mul_right _ hm)
theorem D_b {xs : List Rat} (h : PlOk xs) {f : Rat → Rat} (hf : ∀ x ∈ xs, Wo (f x)) : Bq 850 (D xs f) := (D_dv h hf).bq Ed_pos Ed_lt Ad_lt
theorem D_dot {xs : List Rat} {f : Rat → Rat} : sumQ (xs.map fun x => Nv xs x * f x) = D xs f := sum_congr fun x _ => by unfold Nv; grind
/-! ### the program's difference -/
def pt (f : Rat → Rat) (x : Rat) : PyData := .tuple [rq x, rq (f x)]
theorem difference_by {xs : List Rat} (h : PlOk xs) {f : Rat → Rat} (hf : ∀ x ∈ xs, Wo (f x)) : g_difference_by [.list (xs.map (pt f))] = some (.dat (rq (D xs f))) := by
  have hm := h.most
  have hb1 : xs.length ≤ big := by have : big = 1000000 := rfl; omega
  have e0 : loopLc [1] (dgN 1) dYes (dOp gIx (dPv 1) (dAg (dC (.int 0)))) (xs.map (pt f)) [.dat (.list (xs.map (pt f))), .un] = some (xs.map rq, [.dat (.list (xs.map (pt f))), .un]) :=
    loopLc_map xs fun x hx => ⟨_, rfl, rfl, by simp [pt], rfl⟩
  have e1 : loopLc [1] (dgN 1) dYes (dOp gIx (dPv 1) (dAg (dC (.int 1)))) (xs.map (pt f)) [.dat (.list (xs.map (pt f))), .un] = some (xs.map fun x => rq (f x), [.dat (.list (xs.map (pt f))), .un]) :=
    loopLc_map xs fun x hx => ⟨_, rfl, rfl, by simp [pt], rfl⟩
  have c0 : c_difference_by_0 [.dat (.list (xs.map (pt f))), .un] = some (xs.map rq, [.dat (.list (xs.map (pt f))), .un]) := by
    unfold c_difference_by_0
    simp [hb1, e0]
  have c1 : c_difference_by_1 [.dat (.list (xs.map (pt f))), .un] = some (xs.map fun x => rq (f x), [.dat (.list (xs.map (pt f))), .un]) := by
    unfold c_difference_by_1
    simp [hb1, e1]
  have n := numbers_by h.nm
  have d := r_dot (u := Nv xs) (v := f) (bu := 110) (bv := 60) (l := xs) (fun x hx => ⟨nv_b h.nm hx, (hf x hx).b⟩) hm (by decide)
  rw [D_dot] at d
  unfold g_difference_by f_difference_by
  rw [sim_runD]
  simp [slots, c0, c1, n, d]
/-! ### own differences -/
def gap (xs : List Rat) (f : Rat → Rat) (s at1 : Nat) : Rat := D ((xs.drop at1).take (s + 1)) f
theorem cut_split {xs : List Rat} {s a : Nat} (h : a + s + 1 < xs.length) : ∃ p q, xs[a]? = some p ∧ xs[a + s + 1]? = some q ∧ (xs.drop a).take (s + 2) = p :: ((xs.drop (a + 1)).take s ++ [q]) ∧ (xs.drop (a + 1)).take (s + 1) = (xs.drop (a + 1)).take s ++ [q] ∧ (xs.drop a).take (s + 1) = p :: (xs.drop (a + 1)).take s := by
  have e0 : xs.drop a = xs[a] :: xs.drop (a + 1) := List.drop_eq_getElem_cons (by omega)
  have e1 : (xs.drop (a + 1)).take (s + 1) = (xs.drop (a + 1)).take s ++ [xs[a + s + 1]] := by
    rw [List.take_succ, List.getElem?_drop, List.getElem?_eq_getElem (by omega)]
    simp [show a + 1 + s = a + s + 1 by omega]
  refine ⟨xs[a], xs[a + s + 1], List.getElem?_eq_getElem _, List.getElem?_eq_getElem _, ?_, e1, by rw [e0, List.take_succ_cons]⟩
  rw [e0, show s + 2 = (s + 1) + 1 by omega, List.take_succ_cons, e1]
theorem gap_step {xs : List Rat} (nd : xs.Nodup) {f : Rat → Rat} {s a : Nat} (h : a + s + 1 < xs.length) {p q : Rat} (hp : xs[a]? = some p) (hq : xs[a + s + 1]? = some q) : q - p ≠ 0 ∧ gap xs f (s + 1) a = (gap xs f s (a + 1) - gap xs f s a) / (q - p) := by
  obtain ⟨p', q', e1, e2, e3, e4, e5⟩ := cut_split h
  rw [hp] at e1
  rw [hq] at e2
  cases e1
  cases e2
  have nd' : (p :: ((xs.drop (a + 1)).take s ++ [q])).Nodup := by
    rw [← e3]
    exact nd.sublist ((List.take_sublist _ _).trans (List.drop_sublist _ _))
  have t := two nd' f
  have ne : q - p ≠ 0 := by
    have : p ≠ q := fun e => (List.nodup_cons.mp nd').1 (by rw [e]; simp)
    grind
  refine ⟨ne, ?_⟩
  unfold gap
  rw [e3, e4, e5, ← t, Rat.div_def]
  have := Rat.mul_inv_cancel _ ne
  grind
theorem gap_b {xs : List Rat} (h : PlOk xs) {f : Rat → Rat} (hf : ∀ x ∈ xs, Wo (f x)) {s a : Nat} (ha : a < xs.length) : Bq 850 (gap xs f s a) := by
  have sb : ((xs.drop a).take (s + 1)).Sublist xs := (List.take_sublist _ _).trans (List.drop_sublist _ _)
  have ne : (xs.drop a).take (s + 1) ≠ [] := by
    intro e
    have := congrArg List.length e
    simp at this
    omega
  exact D_b (h.sub sb ne) fun x hx => hf x (sb.subset hx)
section
variable {xs : List Rat} (h : PlOk xs) {f : Rat → Rat} (hf : ∀ x ∈ xs, Wo (f x))
include h hf
theorem tri_in {s : Nat} (hs : s + 1 < xs.length) (x2 x5 x6 x7 : Sl) : ∃ y5, loopFor (dgN 5) b__law_difference_0 ((List.range (xs.length - (s + 1))).map fun (i : Nat) => .int (i : Int)) [.dat (.list (xs.map (pt f))), .dat (.list ((List.range (xs.length - s)).map fun a => rq (gap xs f s a))), x2, .dat (.int (1 + (s : Int))), .own false [], x5, x6, x7] =
    some (.nx, [.dat (.list (xs.map (pt f))), .dat (.list ((List.range (xs.length - s)).map fun a => rq (gap xs f s a))), x2, .dat (.int (1 + (s : Int))), .own false ((List.range (xs.length - (s + 1))).map fun a => rq (gap xs f (s + 1) a)), y5, x6, x7]) := by
  have hm := h.most
  obtain ⟨y, e⟩ := loop_app (t := dgN 5) (body := b__law_difference_0) (enc := fun (i : Nat) => .int (i : Int)) (g := fun a => rq (gap xs f (s + 1) a)) (st := fun acc (x5 : Sl) => [.dat (.list (xs.map (pt f))), .dat (.list ((List.range (xs.length - s)).map fun a => rq (gap xs f s a))), x2, .dat (.int (1 + (s : Int))), .own false acc, x5, x6, x7])
    (List.range (xs.length - (s + 1))) (fun a ha acc x5 hac => by
      have ha' := List.mem_range.mp ha
      obtain ⟨p, q, hp, hq, _⟩ := cut_split (xs := xs) (s := s) (a := a) (by omega)
      obtain ⟨ne, gs⟩ := gap_step h.nd (f := f) (s := s) (a := a) (by omega) hp hq
      have r1 : atI ((List.range (xs.length - s)).map fun a => rq (gap xs f s a)) ((a : Int) + 1) = some (rq (gap xs f s (a + 1))) := by rw [at_succ, List.getElem?_map, List.getElem?_range (by omega)]; rfl
      have r0 : atI ((List.range (xs.length - s)).map fun a => rq (gap xs f s a)) (a : Int) = some (rq (gap xs f s a)) := by rw [Jd.atI_nat, List.getElem?_map, List.getElem?_range (by omega)]; rfl
      have p1 : atI (xs.map (pt f)) ((a : Int) + (1 + (s : Int))) = some (pt f q) := by
        rw [show (a : Int) + (1 + (s : Int)) = ((a + s + 1 : Nat) : Int) by omega, Jd.atI_nat, List.getElem?_map, hq]; rfl
      have p0 : atI (xs.map (pt f)) (a : Int) = some (pt f p) := by rw [Jd.atI_nat, List.getElem?_map, hp]; rfl
      have bp := (h.six p (List.mem_of_getElem? hp)).b
      have bq := (h.six q (List.mem_of_getElem? hq)).b
      have b1 := gap_b h hf (s := s) (a := a + 1) (by omega)
      have b0 := gap_b h hf (s := s) (a := a) (by omega)
      have m1 := law_minus (b1.mono (by decide)) (b0.mono (by decide))
      have m2 := law_minus (bq.mono (by decide)) (bp.mono (by decide))
      have dv := law_by_q ((b1.sub b0).mono (by decide)) ((bq.sub bp).mono (by decide)) ne
      rw [← gs] at dv
      have fb : acc.length < big := by show _ < 1000000; omega
      refine ⟨_, .dat (.int a), rfl, ?_⟩
      generalize ((List.range (xs.length - s)).map fun a => rq (gap xs f s a)) = R at *
      generalize xs.map (pt f) = P at *
      unfold b__law_difference_0
      simp [r1, r0, p1, p0, pt, m1, m2, dv, fb]) [] x5 (by simp; omega)
  exact ⟨y, by simpa using e⟩
theorem tri_out (x6 x7 : Sl) : ∀ (m s : Nat) (x3 x4 x5 : Sl), s + m + 1 = xs.length → (x4 = .un ∨ ∃ d, x4 = .dat d) →
    ∃ y3 y4 y5, loopFor (dgN 3) b__law_difference_1 ((List.range' s m).map fun (i : Nat) => .int (1 + (i : Int))) [.dat (.list (xs.map (pt f))), .dat (.list ((List.range (xs.length - s)).map fun a => rq (gap xs f s a))), .dat (.int xs.length), x3, x4, x5, x6, x7] =
      some (.nx, [.dat (.list (xs.map (pt f))), .dat (.list ((List.range 1).map fun a => rq (gap xs f (xs.length - 1) a))), .dat (.int xs.length), y3, y4, y5, x6, x7])
  | 0, s, x3, x4, x5, e, _ => by
    refine ⟨x3, x4, x5, ?_⟩
    rw [show xs.length - s = 1 by omega, show xs.length - 1 = s by omega]
    rfl
  | m + 1, s, x3, x4, x5, e, hx => by
    have hm := h.most
    obtain ⟨z5, e1⟩ := tri_in h hf (s := s) (by omega) (.dat (.int xs.length)) x5 x6 x7
    obtain ⟨y3, y4, y5, ih⟩ := tri_out x6 x7 m (s + 1) (.dat (.int (1 + (s : Int)))) (.dat (.list ((List.range (xs.length - (s + 1))).map fun a => rq (gap xs f (s + 1) a)))) z5 (by omega) (.inr ⟨_, rfl⟩)
    refine ⟨y3, y4, y5, ?_⟩
    have rg : ∀ G : En, irgK (some ([.int ((xs.length : Int) - (1 + (s : Int)))], G)) = some ((List.range (xs.length - (s + 1))).map fun (i : Nat) => .int (i : Int), G) := fun G => by
      have hs : small62 ((xs.length : Int) - (1 + (s : Int))) = true := by
        unfold small62
        rw [decide_eq_true (by omega), decide_eq_true (by omega)]
        rfl
      rw [irgK_0, if_pos hs, show ((xs.length : Int) - (1 + (s : Int))).toNat = xs.length - (s + 1) by omega, range_map]
    rw [List.range'_succ, List.map_cons, loop_cons (sim_gN ..)]
    have body : b__law_difference_1 [.dat (.list (xs.map (pt f))), .dat (.list ((List.range (xs.length - s)).map fun a => rq (gap xs f s a))), .dat (.int xs.length), .dat (.int (1 + (s : Int))), x4, x5, x6, x7] =
        some (.nx, [.dat (.list (xs.map (pt f))), .dat (.list ((List.range (xs.length - (s + 1))).map fun a => rq (gap xs f (s + 1) a))), .dat (.int xs.length), .dat (.int (1 + (s : Int))), .dat (.list ((List.range (xs.length - (s + 1))).map fun a => rq (gap xs f (s + 1) a))), z5, x6, x7]) := by
      generalize ((List.range (xs.length - s)).map fun a => rq (gap xs f s a)) = R at *
      generalize ((List.range (xs.length - (s + 1))).map fun a => rq (gap xs f (s + 1) a)) = R1 at *
      generalize xs.map (pt f) = P at *
      unfold b__law_difference_1
      rcases hx with rfl | ⟨d, rfl⟩ <;> simp [-irgK_0, rg, e1]
    show stepK (b__law_difference_1 [.dat (.list (xs.map (pt f))), .dat (.list ((List.range (xs.length - s)).map fun a => rq (gap xs f s a))), .dat (.int xs.length), .dat (.int (1 + (s : Int))), x4, x5, x6, x7]) _ _ _ = _
    rw [body, stepK_nx]
    exact ih
theorem law_difference : g__law_difference [.list (xs.map (pt f))] = some (.dat (rq (D xs f))) := by
  have hm := h.most
  have hp := h.pos
  obtain ⟨y3, y4, y5, e⟩ := tri_out h hf .un .un (xs.length - 1) 0 .un .un .un (by omega) (.inl rfl)
  have hb1 : xs.length ≤ big := by have : big = 1000000 := rfl; omega
  have rg : ∀ G : En, irgK (some ([.int 1, .int (xs.length : Int)], G)) = some ((List.range' 0 (xs.length - 1)).map fun (i : Nat) => .int (1 + (i : Int)), G) := fun G => by
    have hs : (small62 1 && small62 (xs.length : Int)) = true := by
      unfold small62
      rw [decide_eq_true (by omega : -(2 ^ 62) ≤ (1 : Int)), decide_eq_true (by omega : (1 : Int) < 2 ^ 62), decide_eq_true (by omega), decide_eq_true (by omega)]
      rfl
    rw [irgK_1, if_pos hs, show ((xs.length : Int) - 1).toNat = xs.length - 1 by omega]
    unfold rangeD
    rw [List.range_eq_range']
  have g0 : ∀ a, a < xs.length → gap xs f 0 a = f (xs.getD a 0) := fun a ha => by
    unfold gap
    rw [List.drop_eq_getElem_cons ha, List.take_succ_cons, List.take_zero]
    show f xs[a] * (fac xs[a] xs[a] * 1)⁻¹ + 0 = _
    have e0 : fac xs[a] xs[a] = 1 := if_pos rfl
    have e1 : xs.getD a 0 = xs[a] := by rw [List.getD_eq_getElem?_getD, List.getElem?_eq_getElem ha]; rfl
    rw [e0, e1]; grind
  have row0 : (List.range (xs.length - 0)).map (fun a => rq (gap xs f 0 a)) = xs.map fun x => rq (f x) := by
    refine List.ext_getElem (by simp) fun i h1 h2 => ?_
    simp at h1 h2 ⊢
    rw [g0 i h1, List.getD_eq_getElem?_getD, List.getElem?_eq_getElem h1]
    rfl
  have c0 : ∀ x1 x2 x3 x4 x5 : Sl, c__law_difference_0 [.dat (.list (xs.map (pt f))), x1, x2, x3, x4, x5, .un, .un] = some (xs.map fun x => rq (f x), [.dat (.list (xs.map (pt f))), x1, x2, x3, x4, x5, .un, .un]) := fun x1 x2 x3 x4 x5 => by
    have e0 : loopLc [6, 7] (dgT 2 (dgsC (dgN 6) (dgsC (dgN 7) dgs0))) dYes (dVar 7) (xs.map (pt f)) [.dat (.list (xs.map (pt f))), x1, x2, x3, x4, x5, .un, .un] = some (xs.map fun x => rq (f x), [.dat (.list (xs.map (pt f))), x1, x2, x3, x4, x5, .un, .un]) :=
      loopLc_map xs fun x hx => ⟨_, rfl, rfl, by simp, rfl⟩
    unfold c__law_difference_0
    simp [hb1, e0]
  have last : (List.range 1).map (fun a => rq (gap xs f (xs.length - 1) a)) = [rq (D xs f)] := by
    show [rq (gap xs f (xs.length - 1) 0)] = _
    unfold gap
    rw [List.drop_zero, List.take_of_length_le (by omega)]
  rw [row0, last] at e
  generalize (xs.map fun x => rq (f x)) = R at *
  unfold g__law_difference f__law_difference
  rw [sim_runD]
  simp [slots, c0, -irgK_1, rg, e]
end
end Q13
namespace Q13
open PySem PySem.Spec PyProof.Rows L2 Jd
/-! ### the power law -/
theorem ixN_nat {n k : Nat} (h : k < n) : ixN n (k : Int) = some k := by
  unfold ixN
  rw [if_pos (by omega), if_pos (by omega), Int.toNat_natCast]
theorem lg_dv {p : Rat} (hp : Six p) {d N : Nat} (hd : 0 < d) : ∀ (l : List Rat) (prev : Rat), Dv d N prev → (∀ a ∈ l, Dv d N a) → ∀ b ∈ lg p prev l, Dv (d * 6) (N * 306) b
  | [], prev, h, _ => fun b hb => by
    rw [List.mem_singleton.mp hb]
    exact (h.scale 6 hd (by decide)).mono (by omega)
  | a :: l, prev, h, hl => fun b hb => by
    have ha := hl a List.mem_cons_self
    rcases List.mem_cons.mp hb with rfl | hb
    · have s := (h.scale 6 hd (by decide)).add (ha.mul hp hd (by decide)).neg
      rw [← Rat.sub_eq_add_neg, show N * 6 + N * 300 = N * 306 by omega] at s
      exact s
    · exact lg_dv hp hd l a ha (fun c hc => hl c (List.mem_cons_of_mem _ hc)) b hb
theorem longer_loop (x0 : Sl) {p : Rat} (hp : Bq 10 p) : ∀ (l : List Rat) (pre : List PyData) (prev : Rat) (x3 x4 : Sl), Bq 60 prev → (∀ a ∈ l, Bq 60 a) →
    ∃ y3 y4, loopFor (dgT 2 (dgsC (dgN 3) (dgsC (dgN 4) dgs0))) b_longer_by_0 (enumD pre.length (l.map rq)) [x0, .dat (rq p), .own false (pre ++ rq prev :: l.map rq), x3, x4] = some (.nx, [x0, .dat (rq p), .own false (pre ++ (lg p prev l).map rq), y3, y4])
  | [], pre, prev, x3, x4, _, _ => ⟨x3, x4, rfl⟩
  | a :: l, pre, prev, x3, x4, hb, hl => by
    have ha := hl a List.mem_cons_self
    have t := r_times (ha.mono (by decide)) (hp.mono (by decide))
    have m := r_minus (hb.mono (by decide)) ((ha.mul hp).mono (by decide))
    obtain ⟨y3, y4, ih⟩ := longer_loop x0 hp l (pre ++ [rq (prev - a * p)]) a (.dat (.int pre.length)) (.dat (rq a)) ha (fun c hc => hl c (List.mem_cons_of_mem _ hc))
    refine ⟨y3, y4, ?_⟩
    obtain ⟨L, hL⟩ : ∃ L, L = pre ++ rq prev :: (a :: l).map rq := ⟨_, rfl⟩
    have g1 : atI L (pre.length : Int) = some (rq prev) := by rw [Jd.atI_nat, hL]; simp
    have g2 : ixN L.length (pre.length : Int) = some pre.length := ixN_nat (by rw [hL]; simp)
    have g3 : L.set pre.length (rq (prev - a * p)) = pre ++ rq (prev - a * p) :: (a :: l).map rq := by rw [hL]; simp
    have body : b_longer_by_0 [x0, .dat (rq p), .own false L, .dat (.int pre.length), .dat (rq a)] = some (.nx, [x0, .dat (rq p), .own false (L.set pre.length (rq (prev - a * p))), .dat (.int pre.length), .dat (rq a)]) := by
      unfold b_longer_by_0
      simp [g1, g2, t, m]
    rw [← hL]
    show loopFor _ _ (.tuple [.int (pre.length : Nat), rq a] :: enumD (pre.length + 1) (l.map rq)) _ = _
    rw [loop_cons (G1 := [x0, .dat (rq p), .own false L, .dat (.int pre.length), .dat (rq a)]) rfl, body, stepK_nx, g3]
    rw [List.length_append] at ih
    simp at ih
    simp
    exact ih
theorem longer_by {p : Rat} (hp : Bq 10 p) {F : List Rat} (hF : ∀ a ∈ F, Bq 60 a) (hl : F.length ≤ 20) : g_longer_by [.list (F.map rq), rq p] = some (.new ((lg p 0 F).map rq)) := by
  obtain ⟨y3, y4, e⟩ := longer_loop (.dat (.list (F.map rq))) hp F [] 0 .un .un (zero_b.mono (by decide)) hF
  have ad : gAddN (.list [rq 0]) (.list (F.map rq)) = some (rq 0 :: F.map rq) := by
    show (if ([rq 0] : List PyData).length + (F.map rq).length ≤ big then _ else _) = _
    rw [if_pos (by rw [List.length_map]; show 1 + F.length ≤ 1000000; omega)]
    rfl
  simp at e
  unfold g_longer_by f_longer_by
  rw [sim_runD]
  simp [slots, zero_rq, ad, e]
theorem lin_zip (t : Rat) (u v : List Rat) : (u.zip v).map (fun p => rq (p.1 + t * p.2)) = (lin t u v).map rq := by
  unfold lin
  induction u generalizing v with
  | nil => rfl
  | cons a u ih => cases v with
    | nil => rfl
    | cons b v => show _ :: (u.zip v).map _ = _ :: (List.zipWith _ u v).map rq; rw [ih v]
structure St (xs : List Rat) (f : Rat → Rat) (k : Nat) (c F : List Rat) : Prop where
  nw : Nw f (xs.take k) c F
  bc : ∀ a ∈ c, Dv (Ed * 6 ^ 5) (k * (Ad * 306 ^ 5)) a
  bF : ∀ a ∈ F, Dv (6 ^ k) (306 ^ k) a
theorem Fq {k : Nat} (hk : k ≤ 6) {a : Rat} (h : Dv (6 ^ k) (306 ^ k) a) : Bq 60 a := by
  have p1 : (6 : Nat) ^ k ≤ 6 ^ 6 := Nat.pow_le_pow_right (by decide) hk
  have p2 : (306 : Nat) ^ k ≤ 306 ^ 6 := Nat.pow_le_pow_right (by decide) hk
  exact h.bq (Nat.pow_pos (by decide)) (Nat.lt_of_le_of_lt p1 (by decide)) (Nat.lt_of_le_of_lt p2 (by decide))
theorem c_lt1 : Ed * 6 ^ 5 < 2 ^ 950 := by decide +kernel
theorem c_lt2 : 6 * (Ad * 306 ^ 5) < 2 ^ 950 := by decide +kernel
theorem cq {k : Nat} (hk : k ≤ 6) {a : Rat} (h : Dv (Ed * 6 ^ 5) (k * (Ad * 306 ^ 5)) a) : Bq 950 a :=
  h.bq (Nat.mul_pos Ed_pos (by decide)) c_lt1 (Nat.lt_of_le_of_lt (Nat.mul_le_mul_right _ hk) c_lt2)
theorem lin_map (t : Rat) (u v : List Rat) : lin t u v = (u.zip v).map fun p => p.1 + t * p.2 := by
  unfold lin
  induction u generalizing v with
  | nil => rfl
  | cons a u ih => cases v with
    | nil => rfl
    | cons b v => show _ :: List.zipWith _ u v = _ :: (u.zip v).map _; rw [ih v]
theorem lin_dv {t : Rat} (ht : Dv Ed Ad t) {k : Nat} (hk : k ≤ 5) {u v : List Rat} (hu : ∀ a ∈ u, Dv (Ed * 6 ^ 5) (k * (Ad * 306 ^ 5)) a) (hv : ∀ a ∈ v, Dv (6 ^ k) (306 ^ k) a) : ∀ a ∈ lin t u v, Dv (Ed * 6 ^ 5) ((k + 1) * (Ad * 306 ^ 5)) a := fun a ha => by
  rw [lin_map] at ha
  obtain ⟨p, hp, rfl⟩ := List.mem_map.mp ha
  obtain ⟨h1, h2⟩ := List.of_mem_zip hp
  have s := (hv _ h2).scale (6 ^ (5 - k)) (Nat.pow_pos (by decide)) (Nat.pow_pos (by decide))
  rw [← Nat.pow_add, show k + (5 - k) = 5 by omega] at s
  have l : 306 ^ k * 6 ^ (5 - k) ≤ 306 ^ 5 := by
    have a := Nat.mul_le_mul_left (306 ^ k) (Nat.pow_le_pow_left (show 6 ≤ 306 by decide) (5 - k))
    rw [← Nat.pow_add, show k + (5 - k) = 5 by omega] at a
    exact a
  have m := ht.mul (s.mono l) Ed_pos (by decide)
  have r := (hu _ h1).add m
  rw [Nat.succ_mul]
  exact r
section
variable {xs : List Rat} (h : PlOk xs) {f : Rat → Rat} (hf : ∀ x ∈ xs, Wo (f x))
include h hf
theorem newton {k : Nat} (hk : k < xs.length) {c F : List Rat} (st : St xs f k c F) : St xs f (k + 1) (lin (D (xs.take (k + 1)) f) (c ++ [0]) F) (lg xs[k] 0 F) := by
  have hm := h.most
  have et : xs.take (k + 1) = xs.take k ++ [xs[k]] := by rw [List.take_succ, List.getElem?_eq_getElem hk]; rfl
  have pk : PlOk (xs.take (k + 1)) := h.sub (List.take_sublist _ _) (by intro e; have l := List.length_take (i := k + 1) (l := xs); rw [e] at l; have l0 : 0 = min (k + 1) xs.length := l; omega)
  have nd := pk.nd
  have dv := D_dv pk (f := f) fun x hx => hf x (List.mem_of_mem_take hx)
  rw [et] at nd
  have nw := nw_step nd st.nw
  rw [← et] at nw
  refine ⟨nw, lin_dv dv (by omega) (fun a ha => ?_) st.bF, fun a ha => ?_⟩
  · rcases List.mem_append.mp ha with ha | ha
    · exact st.bc a ha
    · rw [List.mem_singleton.mp ha]
      exact ⟨0, by have z : ((0 : Int) : Rat) = 0 := rfl; have := dq_ne (Nat.mul_pos Ed_pos (show 0 < 6 ^ 5 by decide)); rw [z]; grind, by simp⟩
  · have z : Dv (6 ^ k) (306 ^ k) 0 := ⟨0, by have z : ((0 : Int) : Rat) = 0 := rfl; have := dq_ne (show 0 < 6 ^ k from Nat.pow_pos (by decide)); rw [z]; grind, by simp⟩
    have := lg_dv (h.six _ (List.getElem_mem hk)) (Nat.pow_pos (by decide)) F 0 z st.bF a ha
    rw [Nat.pow_succ, Nat.pow_succ]
    exact this
theorem by_step {k : Nat} (hk : k < xs.length) {c F : List Rat} (st : St xs f k c F) (x4 : Sl) : ∃ y4, b_law_by_0 [.dat (.list (xs.map (pt f))), .dat (.list (c.map rq)), .dat (.list (F.map rq)), .dat (.int (1 + (k : Int))), x4, .un, .un] =
    some (.nx, [.dat (.list (xs.map (pt f))), .dat (.list ((lin (D (xs.take (k + 1)) f) (c ++ [0]) F).map rq)), .dat (.list ((lg xs[k] 0 F).map rq)), .dat (.int (1 + (k : Int))), y4, .un, .un]) := by
  have hm := h.most
  have pk : PlOk (xs.take (k + 1)) := h.sub (List.take_sublist _ _) (by intro e; have l := List.length_take (i := k + 1) (l := xs); rw [e] at l; have l0 : 0 = min (k + 1) xs.length := l; omega)
  have hfk : ∀ x ∈ xs.take (k + 1), Wo (f x) := fun x hx => hf x (List.mem_of_mem_take hx)
  have df := difference_by pk hfk
  have tb := D_b pk hfk
  have cut : Jd.cutD (xs.map (pt f)) none (some (1 + (k : Int))) = (xs.take (k + 1)).map (pt f) := by
    have := cut_to (xs.map (pt f)) (i := k + 1) (by rw [List.length_map]; omega)
    rw [show ((k + 1 : Nat) : Int) = 1 + (k : Int) by omega] at this
    rw [this, List.map_take]
  have pk0 : atI (xs.map (pt f)) (k : Int) = some (pt f xs[k]) := by rw [Jd.atI_nat, List.getElem?_map, List.getElem?_eq_getElem hk]; rfl
  have lc := st.nw.lc
  have lF := st.nw.lF
  have l1 : (xs.take k).length = k := by rw [List.length_take]; omega
  rw [l1] at lc lF
  have lo := longer_by (h.six _ (List.getElem_mem hk)).b (F := F) (fun a ha => Fq (by omega) (st.bF a ha)) (by omega)
  have ad : gAdd (.list (c.map rq)) (.list [rq 0]) = some (.list ((c ++ [0]).map rq)) := by
    rw [add_l (by rw [List.length_map, lc]; show k + 1 ≤ 1000; omega), List.map_append]; rfl
  generalize ht : D (xs.take (k + 1)) f = t at *
  have z : zipD ((c ++ [0]).map rq) (F.map rq) = ((c ++ [0]).zip F).map fun (p : Rat × Rat) => .tuple [rq p.1, rq p.2] := zip_map _ _ _ _
  have hz : ((c ++ [0]).zip F).length ≤ big := by rw [List.length_zip, lF]; have : big = 1000000 := rfl; omega
  have e : loopLc [5, 6] (dgT 2 (dgsC (dgN 5) (dgsC (dgN 6) dgs0))) dYes (dCall 2 g_r_plus (dEsC (dVar 5) (dEsC (dCall 2 g_r_times (dEsC (dVar 4) (dEsC (dVar 6) dEs0))) dEs0))) (((c ++ [0]).zip F).map fun (p : Rat × Rat) => .tuple [rq p.1, rq p.2]) [.dat (.list (xs.map (pt f))), .dat (.list (c.map rq)), .dat (.list (F.map rq)), .dat (.int (1 + (k : Int))), .dat (rq t), .un, .un] =
      some (((c ++ [0]).zip F).map fun (p : Rat × Rat) => rq (p.1 + t * p.2), [.dat (.list (xs.map (pt f))), .dat (.list (c.map rq)), .dat (.list (F.map rq)), .dat (.int (1 + (k : Int))), .dat (rq t), .un, .un]) :=
    loopLc_map _ fun p hp => ⟨_, rfl, rfl, by
      obtain ⟨h1, h2⟩ := List.of_mem_zip hp
      have b2 := Fq (show k ≤ 6 by omega) (st.bF _ h2)
      have b1 : Bq 950 p.1 := by
        rcases List.mem_append.mp h1 with q | q
        · exact cq (show k ≤ 6 by omega) (st.bc _ q)
        · rw [List.mem_singleton.mp q]; exact zero_b.mono (by decide)
      have ti := r_times (tb.mono (by decide)) (b2.mono (by decide))
      have pl := r_plus (b1.mono (by decide)) ((tb.mul b2).mono (by decide))
      simp [ti, pl], rfl⟩
  rw [lin_zip] at e
  have cc : c_law_by_0 [.dat (.list (xs.map (pt f))), .dat (.list (c.map rq)), .dat (.list (F.map rq)), .dat (.int (1 + (k : Int))), .dat (rq t), .un, .un] = some ((lin t (c ++ [0]) F).map rq, [.dat (.list (xs.map (pt f))), .dat (.list (c.map rq)), .dat (.list (F.map rq)), .dat (.int (1 + (k : Int))), .dat (rq t), .un, .un]) := by
    rw [← z] at e
    have hz' : (zipD ((c ++ [0]).map rq) (F.map rq)).length ≤ big := by rw [z, List.length_map]; exact hz
    generalize (c ++ [0]).map rq = C0 at *
    unfold c_law_by_0
    simp only [sim_Lc, sim_iZip, sim_EsC]
    simp [zero_rq, ad, e, -zipD_len]
    exact hz'
  have kk : (1 + (k : Int)) - 1 = k := by omega
  refine ⟨.dat (rq t), ?_⟩
  generalize (lin t (c ++ [0]) F).map rq = LL at *
  generalize (xs.take (k + 1)).map (pt f) = XK at *
  generalize xs.map (pt f) = XX at *
  unfold b_law_by_0
  simp [cut, df, cc, pk0, pt, lo, kk]
end
end Q13
namespace Q13
open PySem PySem.Spec PyProof.Rows L2 Jd
section
variable {xs : List Rat} (h : PlOk xs) {f : Rat → Rat} (hf : ∀ x ∈ xs, Wo (f x))
include h hf
theorem by_loop : ∀ (m k : Nat) (c F : List Rat) (x3 x4 : Sl), k + m = xs.length → St xs f k c F →
    ∃ c' F' y3 y4, loopFor (dgN 3) b_law_by_0 ((List.range' k m).map fun (i : Nat) => .int (1 + (i : Int))) [.dat (.list (xs.map (pt f))), .dat (.list (c.map rq)), .dat (.list (F.map rq)), x3, x4, .un, .un] = some (.nx, [.dat (.list (xs.map (pt f))), .dat (.list (c'.map rq)), .dat (.list (F'.map rq)), y3, y4, .un, .un]) ∧ St xs f xs.length c' F'
  | 0, k, c, F, x3, x4, e, st => ⟨c, F, x3, x4, rfl, by rw [← e]; exact st⟩
  | m + 1, k, c, F, x3, x4, e, st => by
    have hk : k < xs.length := by omega
    obtain ⟨y4, body⟩ := by_step h hf hk st x4
    obtain ⟨c', F', z3, z4, ih, st'⟩ := by_loop m (k + 1) _ _ (.dat (.int (1 + (k : Int)))) y4 (by omega) (newton h hf hk st)
    refine ⟨c', F', z3, z4, ?_, st'⟩
    rw [List.range'_succ, List.map_cons, loop_cons (sim_gN ..)]
    show stepK (b_law_by_0 [.dat (.list (xs.map (pt f))), .dat (.list (c.map rq)), .dat (.list (F.map rq)), .dat (.int (1 + (k : Int))), x4, .un, .un]) _ _ _ = _
    rw [body, stepK_nx]
    exact ih
theorem law_by : ∃ c : List Rat, g_law_by [.list (xs.map (pt f))] = some (.dat (.list (c.map rq))) ∧ c.length = xs.length ∧ (∀ x ∈ xs, evalP c x = f x) ∧ (∀ a ∈ c, Dv (Ed * 6 ^ 5) (6 * (Ad * 306 ^ 5)) a) := by
  have hm := h.most
  have s0 : St xs f 0 [] [1] := ⟨nw0 f, (fun _ q => nomatch q), fun a ha => by rw [List.mem_singleton.mp ha]; exact ⟨1, by have : ((1 : Int) : Rat) = 1 := rfl; show (1 : Rat) = ((1 : Int) : Rat) / ((1 : Int) : Rat); rw [this]; grind, by decide⟩⟩
  obtain ⟨c, F, y3, y4, e, st⟩ := by_loop h hf xs.length 0 [] [1] .un .un (by omega) s0
  have l := st.nw.lc
  have ok := st.nw.ok
  rw [List.take_of_length_le (Nat.le_refl _)] at l ok
  refine ⟨c, ?_, l, ok, fun a ha => (st.bc a ha).mono (Nat.mul_le_mul_right _ hm)⟩
  have rg : ∀ G : En, irgK (some ([.int 1, .int ((xs.length : Int) + 1)], G)) = some ((List.range' 0 xs.length).map fun (i : Nat) => .int (1 + (i : Int)), G) := fun G => by
    have hs : (small62 1 && small62 ((xs.length : Int) + 1)) = true := by
      unfold small62
      rw [decide_eq_true (by omega : -(2 ^ 62) ≤ (1 : Int)), decide_eq_true (by omega : (1 : Int) < 2 ^ 62), decide_eq_true (by omega), decide_eq_true (by omega)]
      rfl
    rw [irgK_1, if_pos hs, show ((xs.length : Int) + 1 - 1).toNat = xs.length by omega]
    unfold rangeD
    rw [List.range_eq_range']
  simp at e
  unfold g_law_by f_law_by
  rw [sim_runD]
  simp [slots, one_rq, -irgK_1, rg, e]
end
/-! ### worths of coefficients -/
theorem pow_b {x : Rat} (hx : Bq 10 x) : ∀ k : Nat, Bq (10 * k + 1) (x ^ k)
  | 0 => by rw [Rat.pow_zero]; exact one_b
  | k + 1 => by
    have := (pow_b hx k).mul hx
    rw [Rat.pow_succ, show 10 * (k + 1) + 1 = 10 * k + 1 + 10 by omega]
    exact this
theorem pow_loop (x1 : Sl) {x : Rat} (hx : Bq 10 x) : ∀ (ds : List PyData) (j : Nat) (x3 : Sl), j + ds.length ≤ 100 →
    ∃ y3, loopFor (dgN 3) b__law_power_0 ds [.dat (rq x), x1, .dat (rq (x ^ j)), x3] = some (.nx, [.dat (rq x), x1, .dat (rq (x ^ (j + ds.length))), y3])
  | [], j, x3, _ => ⟨x3, rfl⟩
  | d :: ds, j, x3, hj => by
    have hj' : j + (ds.length + 1) ≤ 100 := hj
    have t := law_times ((pow_b hx j).mono (by omega)) (hx.mono (by decide))
    rw [← Rat.pow_succ] at t
    obtain ⟨y3, ih⟩ := pow_loop x1 hx ds (j + 1) (.dat d) (by omega)
    refine ⟨y3, ?_⟩
    have body : b__law_power_0 [.dat (rq x), x1, .dat (rq (x ^ j)), .dat d] = some (.nx, [.dat (rq x), x1, .dat (rq (x ^ (j + 1))), .dat d]) := by
      unfold b__law_power_0
      simp [t]
    rw [loop_cons (sim_gN ..)]
    show stepK (b__law_power_0 [.dat (rq x), x1, .dat (rq (x ^ j)), .dat d]) _ _ _ = _
    rw [body, stepK_nx, List.length_cons, show j + (ds.length + 1) = j + 1 + ds.length by omega]
    exact ih
theorem rng {n : Nat} (hn : n ≤ 1000) (G : En) : irgK (some ([.int (n : Int)], G)) = some ((List.range n).map fun (i : Nat) => .int (i : Int), G) := by
  have hs : small62 (n : Int) = true := by
    unfold small62
    rw [decide_eq_true (by omega), decide_eq_true (by omega)]
    rfl
  rw [irgK_0, if_pos hs, Int.toNat_natCast, range_map]
theorem law_power {x : Rat} (hx : Bq 10 x) {k : Nat} (hk : k ≤ 50) : g__law_power [rq x, .int k] = some (.dat (rq (x ^ k))) := by
  obtain ⟨y3, e⟩ := pow_loop (.dat (.int k)) hx ((List.range k).map fun (i : Nat) => .int (i : Int)) 0 .un (by simp; omega)
  rw [Rat.pow_zero] at e
  simp at e
  unfold g__law_power f__law_power
  rw [sim_runD]
  simp [slots, one_rq, -irgK_0, rng (n := k) (by omega), e]
/-! totals of numbers of one denominator -/
theorem total_loop (x0 : Sl) {d N : Nat} (hd : 0 < d) (d1 : d < 2 ^ 1000) (n1 : 12 * N < 2 ^ 1000) : ∀ (l : List Rat) (acc : Rat) (j : Nat) (x2 : Sl), (∀ a ∈ l, Dv d N a) → Dv d (j * N) acc → j + l.length ≤ 12 →
    ∃ y2, loopFor (dgN 2) b__law_total_0 (l.map rq) [x0, .dat (rq acc), x2] = some (.nx, [x0, .dat (rq (acc + sumQ l)), y2])
  | [], acc, j, x2, _, _, _ => by
    have e : acc + sumQ [] = acc := by show acc + 0 = acc; grind
    rw [e]
    exact ⟨x2, rfl⟩
  | a :: l, acc, j, x2, hl, ha, hj => by
    have hj' : j + (l.length + 1) ≤ 12 := hj
    have h0 := hl a List.mem_cons_self
    have b1 := ha.bq hd d1 (Nat.lt_of_le_of_lt (Nat.mul_le_mul_right N (show j ≤ 12 by omega)) n1)
    have b2 := h0.bq hd d1 (Nat.lt_of_le_of_lt (show N ≤ 12 * N by omega) n1)
    have pl := law_plus (b1.mono (by decide)) (b2.mono (by decide))
    have s := ha.add h0
    rw [← Nat.succ_mul] at s
    obtain ⟨y2, ih⟩ := total_loop x0 hd d1 n1 l (acc + a) (j + 1) (.dat (rq a)) (fun c hc => hl c (List.mem_cons_of_mem _ hc)) s (by omega)
    refine ⟨y2, ?_⟩
    have e : acc + sumQ (a :: l) = acc + a + sumQ l := by show acc + (a + sumQ l) = _; grind
    have body : b__law_total_0 [x0, .dat (rq acc), .dat (rq a)] = some (.nx, [x0, .dat (rq (acc + a)), .dat (rq a)]) := by
      unfold b__law_total_0
      simp [pl]
    rw [e, List.map_cons, loop_cons (sim_gN ..)]
    show stepK (b__law_total_0 [x0, .dat (rq acc), .dat (rq a)]) _ _ _ = _
    rw [body, stepK_nx]
    exact ih
theorem zero_dv {d : Nat} (hd : 0 < d) (N : Nat) : Dv d N 0 := ⟨0, by have z : ((0 : Int) : Rat) = 0 := rfl; have := dq_ne hd; rw [z]; grind, by simp⟩
theorem law_total {l : List Rat} {d N : Nat} (hd : 0 < d) (d1 : d < 2 ^ 1000) (n1 : 12 * N < 2 ^ 1000) (hl : ∀ a ∈ l, Dv d N a) (h12 : l.length ≤ 12) : g__law_total [.list (l.map rq)] = some (.dat (rq (sumQ l))) := by
  obtain ⟨y2, e⟩ := total_loop (.dat (.list (l.map rq))) hd d1 n1 l 0 0 .un hl (zero_dv hd _) (by omega)
  rw [Rat.zero_add] at e
  unfold g__law_total f__law_total
  rw [sim_runD]
  simp [slots, zero_rq, e]
/-- the terms of a power law -/
def tm (x : Rat) : Nat → List Rat → List Rat
  | _, [] => []
  | k, a :: l => a * x ^ k :: tm x (k + 1) l
theorem tm_len (x : Rat) : ∀ (k : Nat) (c : List Rat), (tm x k c).length = c.length
  | _, [] => rfl
  | k, a :: l => by show (tm x (k + 1) l).length + 1 = l.length + 1; rw [tm_len x (k + 1) l]
theorem tm_sum (x : Rat) : ∀ (k : Nat) (c : List Rat), sumQ (tm x k c) = x ^ k * evalP c x
  | k, [] => by show (0 : Rat) = x ^ k * 0; grind
  | k, a :: l => by
    show a * x ^ k + sumQ (tm x (k + 1) l) = x ^ k * (a + x * evalP l x)
    rw [tm_sum x (k + 1) l, Rat.pow_succ]; grind
theorem pow_dv {x : Rat} (hx : Six x) : ∀ k : Nat, Dv (6 ^ k) (300 ^ k) (x ^ k)
  | 0 => ⟨1, by rw [Rat.pow_zero]; have : ((1 : Int) : Rat) = 1 := rfl; show (1 : Rat) = ((1 : Int) : Rat) / ((1 : Int) : Rat); rw [this]; grind, by decide⟩
  | k + 1 => by
    rw [Rat.pow_succ, Nat.pow_succ, Nat.pow_succ]
    exact (pow_dv hx k).mul hx (Nat.pow_pos (by decide)) (by decide)
theorem pow_dv5 {x : Rat} (hx : Six x) {k : Nat} (hk : k ≤ 5) : Dv (6 ^ 5) (300 ^ 5) (x ^ k) := by
  have s := (pow_dv hx k).scale (6 ^ (5 - k)) (Nat.pow_pos (by decide)) (Nat.pow_pos (by decide))
  rw [← Nat.pow_add, show k + (5 - k) = 5 by omega] at s
  have l : 300 ^ k * 6 ^ (5 - k) ≤ 300 ^ 5 := by
    have a := Nat.mul_le_mul_left (300 ^ k) (Nat.pow_le_pow_left (show 6 ≤ 300 by decide) (5 - k))
    rw [← Nat.pow_add, show k + (5 - k) = 5 by omega] at a
    exact a
  exact s.mono l
theorem tm_dv {x : Rat} (hx : Six x) {d N : Nat} (hd : 0 < d) : ∀ (k : Nat) (c : List Rat), k + c.length ≤ 6 → (∀ a ∈ c, Dv d N a) → ∀ b ∈ tm x k c, Dv (d * 6 ^ 5) (N * 300 ^ 5) b
  | _, [], _, _ => fun _ q => nomatch q
  | k, a :: l, hk, hc => fun b hb => by
    have hk' : k + (l.length + 1) ≤ 6 := hk
    rcases List.mem_cons.mp hb with rfl | hb
    · exact (hc a List.mem_cons_self).mul (pow_dv5 hx (by omega)) hd (by decide)
    · exact tm_dv hx hd (k + 1) l (by omega) (fun c h => hc c (List.mem_cons_of_mem _ h)) b hb
theorem worth_lc {x : Rat} (hx : Six x) {d N : Nat} (hd : 0 < d) (d1 : d < 2 ^ 1000) (n1 : N < 2 ^ 1000) (x0 : Sl) : ∀ (c : List Rat) (k : Nat), k + c.length ≤ 6 → (∀ a ∈ c, Dv d N a) →
    loopLc [2, 3] (dgT 2 (dgsC (dgN 2) (dgsC (dgN 3) dgs0))) dYes (dCall 2 g__law_times (dEsC (dVar 3) (dEsC (dCall 2 g__law_power (dEsC (dVar 1) (dEsC (dVar 2) dEs0))) dEs0))) (enumD k (c.map rq)) [x0, .dat (rq x), .un, .un] = some ((tm x k c).map rq, [x0, .dat (rq x), .un, .un])
  | [], k, _, _ => rfl
  | a :: l, k, hk, hc => by
    have hk' : k + (l.length + 1) ≤ 6 := hk
    have ih := worth_lc hx hd d1 n1 x0 l (k + 1) (by omega) (fun c h => hc c (List.mem_cons_of_mem _ h))
    have p := law_power hx.b (k := k) (by omega)
    have ba := (hc a List.mem_cons_self).bq hd d1 n1
    have t := law_times (ba.mono (by decide)) ((pow_b hx.b k).mono (by omega))
    obtain ⟨te, hte⟩ : ∃ te, te = (dCall 2 g__law_times (dEsC (dVar 3) (dEsC (dCall 2 g__law_power (dEsC (dVar 1) (dEsC (dVar 2) dEs0))) dEs0))) := ⟨_, rfl⟩
    have st : te [x0, .dat (rq x), .dat (.int k), .dat (rq a)] = some (rq (a * x ^ k), [x0, .dat (rq x), .dat (.int k), .dat (rq a)]) := by
      rw [hte]
      simp [p, t]
    rw [← hte] at ih ⊢
    show ((te [x0, .dat (rq x), .dat (.int k), .dat (rq a)]).bind fun q => (loopLc [2, 3] (dgT 2 (dgsC (dgN 2) (dgsC (dgN 3) dgs0))) dYes te (enumD (k + 1) (l.map rq)) (wipeG q.2 [2, 3])).bind fun z => some (q.1 :: z.1, z.2)) = _
    rw [st]
    show ((loopLc [2, 3] (dgT 2 (dgsC (dgN 2) (dgsC (dgN 3) dgs0))) dYes te (enumD (k + 1) (l.map rq)) [x0, .dat (rq x), .un, .un]).bind fun z => some (rq (a * x ^ k) :: z.1, z.2)) = _
    rw [ih]
    rfl
theorem law_worth {x : Rat} (hx : Six x) {c : List Rat} {d N : Nat} (hd : 0 < d) (d1 : d * 6 ^ 5 < 2 ^ 1000) (n1 : 12 * (N * 300 ^ 5) < 2 ^ 1000) (hl : c.length ≤ 6) (hc : ∀ a ∈ c, Dv d N a) : g__law_worth [.list (c.map rq), rq x] = some (.dat (rq (evalP c x))) := by
  have d1' : d < 2 ^ 1000 := Nat.lt_of_le_of_lt (Nat.le_mul_of_pos_right _ (by decide)) d1
  have n1' : N < 2 ^ 1000 := Nat.lt_of_le_of_lt (Nat.le_trans (Nat.le_mul_of_pos_right N (show 0 < 300 ^ 5 by decide)) (Nat.le_mul_of_pos_left _ (by decide))) n1
  have e := worth_lc hx hd d1' n1' (.dat (.list (c.map rq))) c 0 (by omega) hc
  have t := law_total (Nat.mul_pos hd (by decide)) d1 n1 (tm_dv hx hd 0 c (by omega) hc) (by rw [tm_len]; omega)
  rw [tm_sum, Rat.pow_zero, Rat.one_mul] at t
  have hb1 : c.length ≤ big := by have : big = 1000000 := rfl; omega
  have cc : c__law_worth_0 [.dat (.list (c.map rq)), .dat (rq x), .un, .un] = some ((tm x 0 c).map rq, [.dat (.list (c.map rq)), .dat (rq x), .un, .un]) := by
    unfold c__law_worth_0
    have : (enumD 0 (c.map rq)).length ≤ big := by rw [enumD_len, List.length_map]; exact hb1
    simp [e, this]
  unfold g__law_worth f__law_worth
  rw [sim_runD]
  simp [slots, cc, t]
/-! Horner's road -/
def hor (x : Rat) : Rat → List Rat → Rat
  | acc, [] => acc
  | acc, a :: l => hor x (acc * x + a) l
theorem hor_app (x : Rat) (a : Rat) : ∀ (l : List Rat) (acc : Rat), hor x acc (l ++ [a]) = hor x acc l * x + a
  | [], acc => rfl
  | b :: l, acc => hor_app x a l (acc * x + b)
theorem hor_eval (x : Rat) : ∀ c : List Rat, hor x 0 c.reverse = evalP c x
  | [] => rfl
  | a :: l => by
    rw [List.reverse_cons, hor_app, hor_eval x l]
    show evalP l x * x + a = a + x * evalP l x
    grind
theorem hor_loop {x : Rat} (hx : Six x) (x0 : Sl) {d N : Nat} (hd : 0 < d) (d1 : d * 6 ^ 6 < 2 ^ 1000) (n1 : 6 * (N * 300 ^ 6) < 2 ^ 1000) : ∀ (l : List Rat) (acc : Rat) (j : Nat) (x3 : Sl), (∀ a ∈ l, Dv d N a) → Dv (d * 6 ^ j) (j * (N * 300 ^ j)) acc → j + l.length ≤ 6 →
    ∃ y3, loopFor (dgN 3) b_power_by_0 (l.map rq) [x0, .dat (rq x), .dat (rq acc), x3] = some (.nx, [x0, .dat (rq x), .dat (rq (hor x acc l)), y3])
  | [], acc, j, x3, _, _, _ => ⟨x3, rfl⟩
  | a :: l, acc, j, x3, hl, ha, hj => by
    have hj' : j + (l.length + 1) ≤ 6 := hj
    have h0 := hl a List.mem_cons_self
    have p6 : (6 : Nat) ^ j ≤ 6 ^ 6 := Nat.pow_le_pow_right (by decide) (by omega)
    have p3 : (300 : Nat) ^ j ≤ 300 ^ 6 := Nat.pow_le_pow_right (by decide) (by omega)
    have ba : Bq 1000 acc := ha.bq (Nat.mul_pos hd (Nat.pow_pos (by decide))) (Nat.lt_of_le_of_lt (Nat.mul_le_mul_left d p6) d1)
      (Nat.lt_of_le_of_lt (Nat.mul_le_mul (show j ≤ 6 by omega) (Nat.mul_le_mul_left N p3)) n1)
    have d1' : d < 2 ^ 1000 := Nat.lt_of_le_of_lt (Nat.le_mul_of_pos_right _ (by decide)) d1
    have n1' : N < 2 ^ 1000 := Nat.lt_of_le_of_lt (Nat.le_trans (Nat.le_mul_of_pos_right N (show 0 < 300 ^ 6 by decide)) (Nat.le_mul_of_pos_left _ (by decide))) n1
    have b0 := h0.bq hd d1' n1'
    have ti := r_times (ba.mono (by decide)) (hx.b.mono (by decide))
    have pl := r_plus ((ba.mul hx.b).mono (by decide)) (b0.mono (by decide))
    have s1 := ha.mul hx (Nat.mul_pos hd (Nat.pow_pos (by decide))) (by decide)
    have s2 := h0.scale (6 ^ (j + 1)) hd (Nat.pow_pos (by decide))
    have e1 : d * 6 ^ j * 6 = d * 6 ^ (j + 1) := by rw [Nat.pow_succ, Nat.mul_assoc]
    rw [e1] at s1
    have s3 := (s1.add s2).mono (M := (j + 1) * (N * 300 ^ (j + 1))) (by
      have a1 : j * (N * 300 ^ j) * 300 = j * (N * 300 ^ (j + 1)) := by rw [Nat.pow_succ, Nat.mul_assoc, Nat.mul_assoc]
      have a2 : N * 6 ^ (j + 1) ≤ N * 300 ^ (j + 1) := Nat.mul_le_mul_left N (Nat.pow_le_pow_left (by decide) _)
      rw [a1, Nat.succ_mul]
      omega)
    obtain ⟨y3, ih⟩ := hor_loop hx x0 hd d1 n1 l (acc * x + a) (j + 1) (.dat (rq a)) (fun c hc => hl c (List.mem_cons_of_mem _ hc)) s3 (by omega)
    refine ⟨y3, ?_⟩
    have body : b_power_by_0 [x0, .dat (rq x), .dat (rq acc), .dat (rq a)] = some (.nx, [x0, .dat (rq x), .dat (rq (acc * x + a)), .dat (rq a)]) := by
      unfold b_power_by_0
      simp [ti, pl]
    rw [List.map_cons, loop_cons (sim_gN ..)]
    show stepK (b_power_by_0 [x0, .dat (rq x), .dat (rq acc), .dat (rq a)]) _ _ _ = _
    rw [body, stepK_nx]
    exact ih
theorem power_by {x : Rat} (hx : Six x) {c : List Rat} {d N : Nat} (hd : 0 < d) (d1 : d * 6 ^ 6 < 2 ^ 1000) (n1 : 6 * (N * 300 ^ 6) < 2 ^ 1000) (hl : c.length ≤ 6) (hc : ∀ a ∈ c, Dv d N a) : g_power_by [.list (c.map rq), rq x] = some (.dat (rq (evalP c x))) := by
  obtain ⟨y3, e⟩ := hor_loop hx (.dat (.list (c.map rq))) hd d1 n1 c.reverse 0 0 .un (fun a ha => hc a (List.mem_reverse.mp ha)) (zero_dv (Nat.mul_pos hd (by decide)) _) (by rw [List.length_reverse]; omega)
  rw [hor_eval, List.map_reverse] at e
  unfold g_power_by f_power_by
  rw [sim_runD]
  simp [slots, zero_rq, e]
end Q13
namespace Q13
open PySem PySem.Spec PyProof.Rows L2 Jd
/-! ### numbers as they are written -/
abbrev Nu := Bool × Rat
def en (z : Nu) : PyData := if z.1 = true then .int z.2.num else rq z.2
def NuOk (z : Nu) : Prop := z.1 = true → z.2.den = 1
theorem en_int {z : Nu} (h : z.1 = true) : en z = .int z.2.num := if_pos h
theorem en_rq {z : Nu} (h : z.1 = false) : en z = rq z.2 := if_neg (by rw [h]; simp)
def cn (w : Rat) : Nu := (decide (w.den = 1), w)
theorem cn_ok (w : Rat) : NuOk (cn w) := fun h => of_decide_eq_true h
theorem rq_one {q : Rat} (h : q.den = 1) : rq q = .tuple [.int q.num, .int 1] := by unfold rq; rw [h]; rfl
@[simp] theorem integer_int (i : Int) : g_is_integer [.int i] = some (.dat (.bool true)) := by
  unfold g_is_integer f_is_integer
  rw [sim_runD]
  simp [slots, isK]
theorem integer_rq (q : Rat) : g_is_integer [rq q] = some (.dat (.bool false)) := by
  unfold g_is_integer f_is_integer
  rw [sim_runD]
  simp [slots, rq, isK]
theorem ratio_right (q : Rat) : g_is_ratio [rq q] = some (.dat (.bool true)) := by
  have h1 : (1 : Int) ≤ q.den := by have := q.den_pos; omega
  have h2 : (Nat.gcd q.num.natAbs q.den) = 1 := q.reduced
  unfold g_is_ratio f_is_ratio
  rw [sim_runD]
  have e : c_is_ratio_0 [.dat (rq q), .un] = some ([.bool true, .bool true], [.dat (rq q), .un]) := by
    unfold c_is_ratio_0
    have e1 : loopLc [1] (dgN 1) dYes (dCall 1 g_is_integer (dEsC (dVar 1) dEs0)) ([q.num, (q.den : Int)].map .int) [.dat (rq q), .un] = some ([q.num, (q.den : Int)].map fun _ => .bool true, [.dat (rq q), .un]) :=
      loopLc_map _ fun w hw => ⟨_, rfl, rfl, by simp, rfl⟩
    simp [rq] at e1
    have b2 : (2 : Nat) ≤ big := by decide
    simp [rq, e1, b2]
  have a2 : gAll [.list [.bool true, .bool true]] = some (.bool true) := rfl
  simp only [rq] at e
  simp [slots, rq, isK, e, a2, h1, h2]
theorem is_number (z : Nu) : g_is_number [en z] = some (.dat (.bool true)) := by
  unfold g_is_number f_is_number
  rw [sim_runD]
  cases h : z.1 with
  | true => rw [en_int h]; simp [slots]
  | false => rw [en_rq h]; simp [slots, integer_rq, ratio_right]
theorem pair_of {z : Nu} (ok : NuOk z) : g_pair_of [en z] = some (.dat (rq z.2)) := by
  unfold g_pair_of f_pair_of
  rw [sim_runD]
  cases h : z.1 with
  | true => rw [en_int h, rq_one (ok h)]; simp [slots]
  | false => rw [en_rq h]; simp [slots, integer_rq]
theorem law_pair {z : Nu} (ok : NuOk z) : g__law_pair [en z] = some (.dat (rq z.2)) := by
  unfold g__law_pair f__law_pair
  rw [sim_runD]
  cases h : z.1 with
  | true => rw [en_int h, rq_one (ok h)]; simp [slots, isK]
  | false => rw [en_rq h]; simp [slots, rq, isK]
theorem all_true {α : Type} (l : List α) : gAll [.list (l.map fun _ => .bool true)] = some (.bool true) := by
  rw [all_map]; simp
/-- a list or a tuple of -/
def Sq (s : PyData) (l : List PyData) : Prop := s = .list l ∨ s = .tuple l
theorem len_b {n : Nat} (h : n ≤ 12) : n ≤ big := by have : big = 1000000 := rfl; omega
theorem c_pairs {zs : List Nu} (ok : ∀ z ∈ zs, NuOk z) (hl : zs.length ≤ 12) {s : PyData} (hs : Sq s (zs.map en)) : g_pairs_of [s] = some (.new (zs.map fun z => rq z.2)) := by
  have e : ∀ s : PyData, loopLc [1] (dgN 1) dYes (dCall 1 g_pair_of (dEsC (dVar 1) dEs0)) (zs.map en) [.dat s, .un] = some (zs.map fun z => rq z.2, [.dat s, .un]) := fun s =>
    loopLc_map zs fun z hz => ⟨_, rfl, rfl, by simp [pair_of (ok z hz)], rfl⟩
  have b := len_b hl
  unfold g_pairs_of f_pairs_of c_pairs_of_0
  rw [sim_runD]
  rcases hs with rfl | rfl <;> simp [slots, e, b]
theorem is_list {s : PyData} {l : List PyData} (hs : Sq s l) : g_is_list [s] = some (.dat (.bool true)) := by
  unfold g_is_list f_is_list
  rw [sim_runD]
  rcases hs with rfl | rfl <;> simp [slots, isK]
theorem line_right {zs : List Nu} (hl : zs.length ≤ 12) {s : PyData} (hs : Sq s (zs.map en)) : g_line_is_right [s, .int 12] = some (.dat (.bool true)) := by
  have e : ∀ s x : PyData, loopLc [2] (dgN 2) dYes (dCall 1 g_is_number (dEsC (dVar 2) dEs0)) (zs.map en) [.dat s, .dat x, .un] = some (zs.map fun _ => .bool true, [.dat s, .dat x, .un]) := fun s x =>
    loopLc_map zs fun z hz => ⟨_, rfl, rfl, by simp [is_number z], rfl⟩
  have b := len_b hl
  have c : c_line_is_right_0 [.dat s, .dat (.int 12), .un] = some (zs.map fun _ => .bool true, [.dat s, .dat (.int 12), .un]) := by
    unfold c_line_is_right_0
    rcases hs with rfl | rfl <;> simp [e, b]
  have il := is_list hs
  have al := all_true zs
  have l12 : (zs.length : Int) ≤ 12 := by omega
  unfold g_line_is_right f_line_is_right
  rw [sim_runD]
  rcases hs with rfl | rfl <;> simp [slots, il, c, al, l12]
theorem zip_up {xs : List Rat} (up : xs.Pairwise (· < ·)) : ∀ p ∈ xs.zip (xs.drop 1), p.1 < p.2 := fun p hp => by
  obtain ⟨i, hi, rfl⟩ := List.getElem_of_mem hp
  simp at hi ⊢
  exact List.pairwise_iff_getElem.mp up i (i + 1) (by omega) (by omega) (by omega)
theorem do_rise {zs : List Nu} (ok : ∀ z ∈ zs, NuOk z) (hl : zs.length ≤ 12) (six : ∀ z ∈ zs, Six z.2) (up : (zs.map (·.2)).Pairwise (· < ·)) {s : PyData} (hs : Sq s (zs.map en)) : g_do_numbers_rise [s] = some (.dat (.bool true)) := by
  have p := c_pairs ok hl hs
  rw [show (zs.map fun z => rq z.2) = (zs.map (·.2)).map rq by rw [List.map_map]; rfl] at p
  have hl' : (zs.map (·.2)).length ≤ 12 := by rw [List.length_map]; exact hl
  have six' : ∀ x ∈ zs.map (·.2), Six x := fun x hx => by obtain ⟨z, hz, rfl⟩ := List.mem_map.mp hx; exact six z hz
  generalize zs.map (·.2) = xs at *
  have z : zipD (xs.map rq) (Jd.cutD (xs.map rq) (some 1) none) = (xs.zip (xs.drop 1)).map fun p => .tuple [rq p.1, rq p.2] := by
    rw [cut_from1, ← List.map_drop, zip_map]
  have e : loopLc [2, 3] (dgT 2 (dgsC (dgN 2) (dgsC (dgN 3) dgs0))) dYes (dCall 2 g_r_less (dEsC (dVar 2) (dEsC (dVar 3) dEs0))) ((xs.zip (xs.drop 1)).map fun p => .tuple [rq p.1, rq p.2]) [.dat s, .dat (.list (xs.map rq)), .un, .un] = some ((xs.zip (xs.drop 1)).map fun _ => .bool true, [.dat s, .dat (.list (xs.map rq)), .un, .un]) :=
    loopLc_map _ fun p hp => ⟨_, rfl, rfl, by
      have lt := zip_up up p hp
      have h1 := six' _ (List.of_mem_zip hp).1
      have h2 := six' _ (List.mem_of_mem_drop (List.of_mem_zip hp).2)
      have le := r_less (h1.b.mono (by decide)) (h2.b.mono (by decide))
      rw [decide_eq_true lt] at le
      simp [le], rfl⟩
  have hz : (xs.zip (xs.drop 1)).length ≤ big := by rw [List.length_zip]; exact Nat.le_trans (Nat.min_le_left _ _) (len_b hl')
  have c : c_do_numbers_rise_0 [.dat s, .dat (.list (xs.map rq)), .un, .un] = some ((xs.zip (xs.drop 1)).map fun _ => .bool true, [.dat s, .dat (.list (xs.map rq)), .un, .un]) := by
    rw [← z] at e
    have hz' : (zipD (xs.map rq) (Jd.cutD (xs.map rq) (some 1) none)).length ≤ big := by rw [z, List.length_map]; exact hz
    unfold c_do_numbers_rise_0
    simp only [sim_Lc, sim_iZip, sim_EsC]
    simp [e]
    exact hz'
  have al := all_true (xs.zip (xs.drop 1))
  generalize ((xs.zip (xs.drop 1)).map fun _ => PyData.bool true) = B at *
  unfold g_do_numbers_rise f_do_numbers_rise
  rw [sim_runD]
  simp [slots, p, c, al]
end Q13
namespace Q13
open PySem PySem.Spec PyProof.Rows L2 Jd
/-! ### the program's doors -/
def xsOf (zs : List Nu) : List Rat := zs.map (·.2)
structure ZsOk (zs : List Nu) : Prop where
  ok : ∀ z ∈ zs, NuOk z
  pl : PlOk (xsOf zs)
theorem ZsOk.most {zs : List Nu} (h : ZsOk zs) : zs.length ≤ 6 := by have := h.pl.most; unfold xsOf at this; rw [List.length_map] at this; exact this
theorem ZsOk.pos {zs : List Nu} (h : ZsOk zs) : 0 < zs.length := by have := h.pl.pos; unfold xsOf at this; rw [List.length_map] at this; exact this
theorem ZsOk.six {zs : List Nu} (h : ZsOk zs) : ∀ z ∈ zs, Six z.2 := fun z hz => h.pl.six _ (List.mem_map.mpr ⟨z, hz, rfl⟩)
section
variable {zs : List Nu} (h : ZsOk zs)
include h
theorem difference_numbers {s : PyData} (hs : Sq s (zs.map en)) : g_difference_numbers [s] = some (.new ((xsOf zs).map fun x => rq (Nv (xsOf zs) x))) := by
  have hm := h.most
  have hp := h.pos
  have l := line_right (zs := zs) (by omega) hs
  have r := do_rise h.ok (by omega) h.six h.pl.up hs
  have p := c_pairs h.ok (by omega) hs
  rw [show (zs.map fun z => rq z.2) = (xsOf zs).map rq by unfold xsOf; rw [List.map_map]; rfl] at p
  have n := numbers_by h.pl.nm
  have n0 : ¬ zs.length = 0 := by omega
  have n1 : ¬ (zs.length : Int) = 0 := by omega
  have n2 : ¬ zs = [] := by intro e; rw [e] at hp; simp at hp
  unfold g_difference_numbers f_difference_numbers
  rw [sim_runD]
  rcases hs with rfl | rfl <;> simp [slots, l, r, p, n, n0, n1, n2]
variable (f : Rat → Rat)
def pz (f : Rat → Rat) (z : Nu) : PyData := .tuple [en z, en (cn (f z.2))]
omit h in
theorem point_right (z : Nu) : g_point_is_right [pz f z] = some (.dat (.bool true)) := by
  have e : loopLc [1] (dgN 1) dYes (dCall 1 g_is_number (dEsC (dVar 1) dEs0)) ([z, cn (f z.2)].map en) [.dat (pz f z), .un] = some ([z, cn (f z.2)].map fun _ => .bool true, [.dat (pz f z), .un]) :=
    loopLc_map _ fun w hw => ⟨_, rfl, rfl, by simp [is_number w], rfl⟩
  have b2 : (2 : Nat) ≤ big := by decide
  simp at e
  have c : c_point_is_right_0 [.dat (pz f z), .un] = some ([.bool true, .bool true], [.dat (pz f z), .un]) := by
    unfold c_point_is_right_0
    simp only [pz] at e
    simp [pz, b2, e]
  have a2 : gAll [.list [.bool true, .bool true]] = some (.bool true) := rfl
  unfold g_point_is_right f_point_is_right
  rw [sim_runD]
  simp only [pz] at c
  simp [slots, pz, isK, c, a2]
theorem points_right {s : PyData} (hs : Sq s (zs.map (pz f))) : g_points_are_right [s] = some (.dat (.bool true)) := by
  have hm := h.most
  have hp := h.pos
  have b := len_b (n := zs.length) (by omega)
  have e0 : ∀ s : PyData, loopLc [1] (dgN 1) dYes (dCall 1 g_point_is_right (dEsC (dVar 1) dEs0)) (zs.map (pz f)) [.dat s, .un, .un] = some (zs.map fun _ => .bool true, [.dat s, .un, .un]) := fun s =>
    loopLc_map zs fun z hz => ⟨_, rfl, rfl, by simp [point_right f z], rfl⟩
  have e1 : ∀ s : PyData, loopLc [2] (dgN 2) dYes (dOp gIx (dPv 2) (dAg (dC (.int 0)))) (zs.map (pz f)) [.dat s, .un, .un] = some (zs.map en, [.dat s, .un, .un]) := fun s =>
    loopLc_map zs fun z hz => ⟨_, rfl, rfl, by simp [pz], rfl⟩
  have c0 : c_points_are_right_0 [.dat s, .un, .un] = some (zs.map fun _ => .bool true, [.dat s, .un, .un]) := by
    unfold c_points_are_right_0
    rcases hs with rfl | rfl <;> simp [e0, b]
  have c1 : c_points_are_right_1 [.dat s, .un, .un] = some (zs.map en, [.dat s, .un, .un]) := by
    unfold c_points_are_right_1
    rcases hs with rfl | rfl <;> simp [e1, b]
  have il := is_list hs
  have al := all_true zs
  have r := do_rise h.ok (show zs.length ≤ 12 by omega) h.six h.pl.up (.inl rfl)
  have l1 : (1 : Int) ≤ zs.length := by omega
  have l12 : (zs.length : Int) ≤ 12 := by omega
  unfold g_points_are_right f_points_are_right
  rw [sim_runD]
  rcases hs with rfl | rfl <;> simp [slots, il, c0, c1, al, r, l1, l12]
theorem points_of {s : PyData} (hs : Sq s (zs.map (pz f))) : g_points_of [s] = some (.new ((xsOf zs).map (pt f))) := by
  have hm := h.most
  have b := len_b (n := zs.length) (by omega)
  have r := points_right h f hs
  have e0 : ∀ s : PyData, loopLc [1, 2] (dgT 2 (dgsC (dgN 1) (dgsC (dgN 2) dgs0))) dYes (dTup (dEsC (dCall 1 g_pair_of (dEsC (dVar 1) dEs0)) (dEsC (dCall 1 g_pair_of (dEsC (dVar 2) dEs0)) dEs0))) (zs.map (pz f)) [.dat s, .un, .un] = some (zs.map fun z => pt f z.2, [.dat s, .un, .un]) := fun s =>
    loopLc_map zs fun z hz => ⟨_, rfl, rfl, by
      have p1 := pair_of (h.ok z hz)
      have p2 : g_pair_of [en (cn (f z.2))] = some (.dat (rq (f z.2))) := pair_of (cn_ok (f z.2))
      simp [p1, p2, pt], rfl⟩
  have c0 : c_points_of_0 [.dat s, .un, .un] = some ((xsOf zs).map (pt f), [.dat s, .un, .un]) := by
    unfold c_points_of_0 xsOf
    rw [List.map_map]
    rcases hs with rfl | rfl <;> simp [e0, b] <;> rfl
  unfold g_points_of f_points_of
  rw [sim_runD]
  simp [slots, r, c0]
variable {f} (hf : ∀ x ∈ xsOf zs, Wo (f x))
include hf
theorem difference {s : PyData} (hs : Sq s (zs.map (pz f))) : g_difference [s] = some (.dat (rq (D (xsOf zs) f))) := by
  have p := points_of h f hs
  have d := difference_by h.pl hf
  unfold g_difference f_difference
  rw [sim_runD]
  simp [slots, p, d]
theorem power_law {s : PyData} (hs : Sq s (zs.map (pz f))) : ∃ c : List Rat, g_power_law [s] = some (.dat (.list (c.map rq))) ∧ c.length = (xsOf zs).length ∧ (∀ x ∈ xsOf zs, evalP c x = f x) ∧ (∀ a ∈ c, Dv (Ed * 6 ^ 5) (6 * (Ad * 306 ^ 5)) a) := by
  have p := points_of h f hs
  obtain ⟨c, d, rest⟩ := law_by h.pl hf
  refine ⟨c, ?_, rest⟩
  unfold g_power_law f_power_law
  rw [sim_runD]
  simp [slots, p, d]
end
theorem power_at {z : Nu} (hz : NuOk z) (six : Six z.2) {cs : List Nu} (hc : ∀ a ∈ cs, NuOk a) (h0 : 0 < cs.length) (h6 : cs.length ≤ 6) {d N : Nat} (hd : 0 < d) (d1 : d * 6 ^ 6 < 2 ^ 1000) (n1 : 6 * (N * 300 ^ 6) < 2 ^ 1000) (hv : ∀ a ∈ cs, Dv d N a.2) {s : PyData} (hs : Sq s (cs.map en)) :
    g_power_at [s, en z] = some (.dat (rq (evalP (xsOf cs) z.2))) := by
  have l := line_right (zs := cs) (by omega) hs
  have p := c_pairs hc (by omega) hs
  rw [show (cs.map fun z => rq z.2) = (xsOf cs).map rq by unfold xsOf; rw [List.map_map]; rfl] at p
  have sp : g_spot_of [en z] = some (.dat (rq z.2)) := by
    unfold g_spot_of f_spot_of
    rw [sim_runD]
    simp [slots, is_number z, pair_of hz]
  have b := power_by six hd d1 n1 (c := xsOf cs) (by unfold xsOf; rw [List.length_map]; exact h6) (fun a ha => by obtain ⟨w, hw, rfl⟩ := List.mem_map.mp ha; exact hv w hw)
  have n1 : ¬ (cs.length : Int) = 0 := by omega
  have n2 : ¬ cs = [] := by intro e; rw [e] at h0; simp at h0
  unfold g_power_at f_power_at
  rw [sim_runD]
  rcases hs with rfl | rfl <;> simp [slots, l, p, sp, b, n1, n2]
end Q13
namespace Q13
open PySem PySem.Spec PyProof.Rows L2 Jd
/-! ### data that can be shown, with long numbers -/
variable {ds : List PyData} {d : PyData} {a : Int} {x : Str}
def fitw (n : Nat) : Nat → PyData → Bool
  | _, .none => true
  | _, .bool _ => true
  | _, .int i => decide (i.natAbs < 2 ^ 1900)
  | _, .str x => PyData.strOk x && decide ((reprText x).length ≤ 100)
  | 0, _ => false
  | k + 1, .list xs => decide (xs.length ≤ n) && xs.all (fitw n k)
  | k + 1, .tuple xs => decide (xs.length ≤ n) && xs.all (fitw n k)
  | _, .dict _ => false
theorem fitw_list {n k : Nat} : fitw n (k + 1) (.list ds) = true ↔ ds.length ≤ n ∧ ∀ x ∈ ds, fitw n k x = true := by
  show (decide (ds.length ≤ n) && ds.all (fitw n k)) = true ↔ _
  rw [Bool.and_eq_true, decide_eq_true_iff, List.all_eq_true]
theorem fitw_tup {n k : Nat} : fitw n (k + 1) (.tuple ds) = true ↔ ds.length ≤ n ∧ ∀ x ∈ ds, fitw n k x = true := by
  show (decide (ds.length ≤ n) && ds.all (fitw n k)) = true ↔ _
  rw [Bool.and_eq_true, decide_eq_true_iff, List.all_eq_true]
theorem fitw_int {n k : Nat} : fitw n k (.int a) = decide (a.natAbs < 2 ^ 1900) := by cases k <;> rfl
theorem fitw_str {n k : Nat} : fitw n k (.str x) = (PyData.strOk x && decide ((reprText x).length ≤ 100)) := by cases k <;> rfl
theorem fitw_none {n k : Nat} : fitw n k .none = true := by cases k <;> rfl
theorem fitw_bool {n k : Nat} {p : Bool} : fitw n k (.bool p) = true := by cases k <;> rfl
theorem fitw_shape {n : Nat} : ∀ {k : Nat} {d : PyData}, fitw n k d = true → d.canLay0 = true ∧ d.depth ≤ k ∧ d.hasDict = false
  | k, .none, _ => ⟨rfl, Nat.zero_le _, rfl⟩
  | k, .bool _, _ => ⟨rfl, Nat.zero_le _, rfl⟩
  | k, .int _, _ => ⟨rfl, Nat.zero_le _, rfl⟩
  | k, .str x, h => by
    rw [fitw_str, Bool.and_eq_true] at h
    exact ⟨h.1, Nat.zero_le _, rfl⟩
  | 0, .list _, h => by cases h
  | 0, .tuple _, h => by cases h
  | 0, .dict _, h => by cases h
  | k + 1, .dict _, h => by cases h
  | k + 1, .list xs, h => by
    have h' := (fitw_list.mp h).2
    exact ⟨canLayAll_of fun x hx => (fitw_shape (h' x hx)).1, Nat.succ_le_succ (depthAll_of fun x hx => (fitw_shape (h' x hx)).2.1), hasDict_of fun x hx => (fitw_shape (h' x hx)).2.2⟩
  | k + 1, .tuple xs, h => by
    have h' := (fitw_tup.mp h).2
    exact ⟨canLayAll_of fun x hx => (fitw_shape (h' x hx)).1, Nat.succ_le_succ (depthAll_of fun x hx => (fitw_shape (h' x hx)).2.1), hasDict_of fun x hx => (fitw_shape (h' x hx)).2.2⟩
where
  hasDict_of : ∀ {ds : List PyData}, (∀ x ∈ ds, x.hasDict = false) → PyData.hasDictAll ds = false
  | [], _ => rfl
  | x :: r, h => by
    show (x.hasDict || PyData.hasDictAll r) = false
    rw [h x List.mem_cons_self, hasDict_of fun y hy => h y (List.mem_cons_of_mem _ hy)]
    rfl
theorem fitw_shaped {n k : Nat} (h : fitw n k d = true) (hk : k ≤ 64) : SeqAt.shaped d = true := by
  obtain ⟨h1, h2, _⟩ := fitw_shape h
  unfold SeqAt.shaped
  rw [h1, decide_eq_true (Nat.le_trans h2 hk)]
  rfl
/-- the weight of a repr -/
def ww (n : Nat) : Nat → Nat
  | 0 => 1905
  | k + 1 => n * (ww n k + 2) + 1905
theorem ww_pos {n : Nat} : ∀ k, 1905 ≤ ww n k
  | 0 => Nat.le_refl _
  | k + 1 => by show 1905 ≤ n * (ww n k + 2) + 1905; omega
theorem fitw_show {n : Nat} : ∀ {k : Nat} {d : PyData}, fitw n k d = true → d.showable = true ∧ wt d ≤ ww n k
  | k, .none, _ => ⟨rfl, Nat.le_trans (show 4 ≤ 1905 by decide) (ww_pos k)⟩
  | k, .bool _, _ => ⟨rfl, Nat.le_trans (by decide : 5 ≤ 1905) (ww_pos k)⟩
  | k, .int i, h => by
    rw [fitw_int, decide_eq_true_iff] at h
    have hl : i.natAbs.log2 < 1900 := by
      by_cases h0 : i.natAbs = 0
      · rw [h0]; decide
      · exact (Nat.log2_lt h0).mpr h
    refine ⟨decide_eq_true (by omega), Nat.le_trans ?_ (ww_pos k)⟩
    show i.natAbs.log2 + 3 ≤ 1905
    omega
  | k, .str x, h => by
    rw [fitw_str, Bool.and_eq_true, decide_eq_true_iff] at h
    exact ⟨rfl, Nat.le_trans (show (reprText x).length ≤ 1905 by omega) (ww_pos k)⟩
  | 0, .list _, h => by cases h
  | 0, .tuple _, h => by cases h
  | 0, .dict _, h => by cases h
  | k + 1, .dict _, h => by cases h
  | k + 1, .list xs, h => by
    obtain ⟨hl, h'⟩ := fitw_list.mp h
    refine ⟨showAll_of fun x hx => (fitw_show (h' x hx)).1, ?_⟩
    have h2 := wtAll_of fun x hx => (fitw_show (h' x hx)).2
    have h3 : xs.length * (ww n k + 2) ≤ n * (ww n k + 2) := Nat.mul_le_mul_right _ hl
    show wtAll xs + 2 ≤ n * (ww n k + 2) + 1905
    omega
  | k + 1, .tuple xs, h => by
    obtain ⟨hl, h'⟩ := fitw_tup.mp h
    refine ⟨showAll_of fun x hx => (fitw_show (h' x hx)).1, ?_⟩
    have h2 := wtAll_of fun x hx => (fitw_show (h' x hx)).2
    have h3 : xs.length * (ww n k + 2) ≤ n * (ww n k + 2) := Nat.mul_le_mul_right _ hl
    show wtAll xs + 3 ≤ n * (ww n k + 2) + 1905
    omega
where
  showAll_of : ∀ {ds : List PyData}, (∀ x ∈ ds, x.showable = true) → PyData.showableAll ds = true
  | [], _ => rfl
  | x :: r, h => by
    show (x.showable && PyData.showableAll r) = true
    rw [h x List.mem_cons_self, showAll_of fun y hy => h y (List.mem_cons_of_mem _ hy)]
    rfl
theorem fitw_repr {n k : Nat} (h : fitw n k d = true) (hk : k ≤ 40) (hw : ww n k ≤ big) : reprOk d = true := by
  obtain ⟨h1, h2, h3⟩ := fitw_shape h
  obtain ⟨h4, h5⟩ := fitw_show h
  unfold reprOk
  rw [h4, h3, decide_eq_true (Nat.le_trans h2 hk), decide_eq_true (Nat.le_trans h5 hw)]
  rfl
end Q13
namespace Q13
open PySem PySem.Spec PyProof.Rows L2 Jd
theorem eqv_self {n : Nat} : ∀ {k : Nat} {d : PyData}, fitw n k d = true → PyData.eqv d d = true
  | k, .none, _ => rfl
  | k, .bool b, _ => by show (b == b) = true; simp
  | k, .int i, _ => by show (i == i) = true; simp
  | k, .str x, _ => by show (x == x) = true; simp
  | 0, .list _, h => by cases h
  | 0, .tuple _, h => by cases h
  | 0, .dict _, h => by cases h
  | k + 1, .dict _, h => by cases h
  | k + 1, .list xs, h => all_self fun x hx => eqv_self ((fitw_list.mp h).2 x hx)
  | k + 1, .tuple xs, h => all_self fun x hx => eqv_self ((fitw_tup.mp h).2 x hx)
where
  all_self : ∀ {ds : List PyData}, (∀ x ∈ ds, PyData.eqv x x = true) → PyData.eqvAll ds ds = true
  | [], _ => rfl
  | x :: r, h => by
    show (PyData.eqv x x && PyData.eqvAll r r) = true
    rw [h x List.mem_cons_self, all_self fun y hy => h y (List.mem_cons_of_mem _ hy)]
    rfl
theorem ne_self {n k : Nat} {d : PyData} (h : fitw n k d = true) (hk : k ≤ 64) : gNe d d = some (.bool false) := by
  have sh := fitw_shaped h hk
  rw [ne_sh sh sh, eqv_self h]
  rfl
theorem fit_rq {q : Rat} (h : Bq 1500 q) : fitw 6 1 (rq q) = true := by
  have h1 : q.num.natAbs < 2 ^ 1900 := Nat.lt_of_lt_of_le h.1 (Nat.pow_le_pow_right (by decide) (by decide))
  have h2 : (q.den : Int).natAbs < 2 ^ 1900 := by rw [Int.natAbs_natCast]; exact Nat.lt_of_lt_of_le h.2 (Nat.pow_le_pow_right (by decide) (by decide))
  refine fitw_tup.mpr ⟨by simp, fun x hx => ?_⟩
  rcases List.mem_cons.mp hx with rfl | hx
  · rw [fitw_int]; exact decide_eq_true h1
  · rw [List.mem_singleton.mp hx, fitw_int]; exact decide_eq_true h2
theorem fit_en {z : Nu} (h : Bq 1500 z.2) : fitw 6 1 (en z) = true := by
  cases c : z.1 with
  | true =>
    rw [en_int c, fitw_int]
    exact decide_eq_true (Nat.lt_of_lt_of_le h.1 (Nat.pow_le_pow_right (by decide) (by decide)))
  | false => rw [en_rq c]; exact fit_rq h
theorem fit_lst {α : Type} {g : α → PyData} {k : Nat} {l : List α} (hl : l.length ≤ 6) (h : ∀ a ∈ l, fitw 6 k (g a) = true) : fitw 6 (k + 1) (.list (l.map g)) = true :=
  fitw_list.mpr ⟨by rw [List.length_map]; exact hl, fun x hx => by obtain ⟨a, ha, rfl⟩ := List.mem_map.mp hx; exact h a ha⟩
theorem fit_pair {k : Nat} {a b : PyData} (h1 : fitw 6 k a = true) (h2 : fitw 6 k b = true) : fitw 6 (k + 1) (.list [a, b]) = true := fitw_list.mpr ⟨by simp, by simp [h1, h2]⟩
theorem fit_two {k : Nat} {a b : PyData} (h1 : fitw 6 k a = true) (h2 : fitw 6 k b = true) : fitw 6 (k + 1) (.tuple [a, b]) = true := fitw_tup.mpr ⟨by simp, by simp [h1, h2]⟩
theorem repr_ok {k : Nat} {d : PyData} (h : fitw 6 k d = true) (hk : k ≤ 3) : reprOk d = true := by
  have w : ww 6 k ≤ big := by
    have : ∀ k ≤ 3, ww 6 k ≤ big := by decide +kernel
    exact this k hk
  exact fitw_repr h (by omega) w
theorem repr_l {k : Nat} {l : List PyData} (h : fitw 6 k (.list l) = true) (hk : k ≤ 3) : ∃ S : Str, gRepr [.list l] = some (.str S) := ⟨_, if_pos (repr_ok h hk)⟩
theorem repr_t {k : Nat} {l : List PyData} (h : fitw 6 k (.tuple l) = true) (hk : k ≤ 3) : ∃ S : Str, gRepr [.tuple l] = some (.str S) := ⟨_, if_pos (repr_ok h hk)⟩
/-! ### draws of numbers -/
def Sml (q : Rat) : Prop := Dv 6 180 q
theorem Sml.six {q : Rat} (h : Sml q) : Six q := Dv.mono h (by decide)
theorem Sml.wo {q : Rat} (h : Sml q) : Wo q := by
  have s := Dv.scale h (6 ^ 5) (by decide) (by decide)
  rw [show 6 * 6 ^ 5 = 6 ^ 6 by decide] at s
  exact s.mono (by decide)
theorem sml_of {a : Int} {k m : Int} (hk : 0 < k) (hm : k * m = 6) (ha : (m * a).natAbs ≤ 180) : Sml ((a : Rat) / (k : Rat)) := by
  refine ⟨m * a, ?_, ha⟩
  have kq : (k : Rat) ≠ 0 := by intro z; have := Rat.intCast_eq_zero_iff.mp z; omega
  have e : ((6 : Int) : Rat) = (k : Rat) * (m : Rat) := by rw [← hm, Rat.intCast_mul]
  show (a : Rat) / (k : Rat) = ((m * a : Int) : Rat) / ((6 : Int) : Rat)
  have sq : ((6 : Int) : Rat) ≠ 0 := by decide
  rw [e] at sq ⊢
  rw [Rat.intCast_mul]
  have mq : (m : Rat) ≠ 0 := by intro z; rw [z] at sq; exact sq (Rat.mul_zero _)
  grind
theorem sml_int {a : Int} (h : -30 ≤ a ∧ a ≤ 30) : Sml ((a : Int) : Rat) := by
  have := sml_of (a := a) (k := 1) (m := 6) (by decide) (by decide) (by omega)
  have e : ((1 : Int) : Rat) = 1 := rfl
  rw [e] at this
  have e2 : (a : Rat) / 1 = (a : Rat) := by grind
  rw [e2] at this
  exact this
theorem pick5 {p : List PyData} (hp : Pot p) {l : List PyData} (hl : 0 < l.length) (hl2 : l.length < 1000) : ∃ (x : PyData) (p' : List PyData), Pot p' ∧ x ∈ l ∧ g__law_pick p [.list l] = some (.dat x, p') := pickL hp (.inl rfl) hl hl2
theorem small {p : List PyData} (hp : Pot p) : ∃ (z : Nu) (p' : List PyData), Pot p' ∧ NuOk z ∧ Sml z.2 ∧ g__law_small p [] = some (.dat (en z), p') := by
  obtain ⟨v1, p1, hp1, a1, b1, e1⟩ := draw hp (m := 9) (by omega) (by omega)
  obtain ⟨v2, p2, hp2, a2, b2, e2⟩ := draw hp1 (m := 9) (by omega) (by omega)
  obtain ⟨v3, p3, hp3, a3, b3, e3⟩ := draw hp2 (m := 60) (by omega) (by omega)
  obtain ⟨v4, p4, hp4, a4, b4, e4⟩ := draw hp3 (m := 13) (by omega) (by omega)
  obtain ⟨v5, p5, hp5, a5, b5, e5⟩ := draw hp4 (m := 13) (by omega) (by omega)
  have f4 := made_int (a := v4 - 6) (b := 2) (by decide) (lt_pow (j := 10) (by omega)) (lt_pow (j := 10) (by decide))
  have f5 := made_int (a := v5 - 6) (b := 3) (by decide) (lt_pow (j := 10) (by omega)) (lt_pow (j := 10) (by decide))
  obtain ⟨x, p6, hp6, mx, e6⟩ := pick5 hp5 (l := [.int (v1 - 4), .int (v2 - 4), .int (v3 - 30), rq (((v4 - 6 : Int) : Rat) / ((2 : Int) : Rat)), rq (((v5 - 6 : Int) : Rat) / ((3 : Int) : Rat))]) (by simp) (by simp)
  have hz : ∃ z : Nu, NuOk z ∧ Sml z.2 ∧ x = en z := by
    have whole : ∀ a : Int, -30 ≤ a ∧ a ≤ 30 → x = .int a → ∃ z : Nu, NuOk z ∧ Sml z.2 ∧ x = en z := fun a ha e => ⟨(true, (a : Rat)), fun _ => rfl, sml_int ha, by rw [e]; rfl⟩
    rcases List.mem_cons.mp mx with e | mx
    · exact whole _ (by omega) e
    rcases List.mem_cons.mp mx with e | mx
    · exact whole _ (by omega) e
    rcases List.mem_cons.mp mx with e | mx
    · exact whole _ (by omega) e
    rcases List.mem_cons.mp mx with e | mx
    · exact ⟨(false, _), (fun q => nomatch q), sml_of (a := v4 - 6) (k := 2) (m := 3) (by decide) (by decide) (by omega), by rw [e]; rfl⟩
    · exact ⟨(false, _), (fun q => nomatch q), sml_of (a := v5 - 6) (k := 3) (m := 2) (by decide) (by decide) (by omega), by rw [List.mem_singleton.mp mx]; rfl⟩
  obtain ⟨z, ok, sm, rfl⟩ := hz
  refine ⟨z, p6, hp6, ok, sm, ?_⟩
  clear mx
  generalize ((v4 - 6 : Int) : Rat) / ((2 : Int) : Rat) = q4 at *
  generalize ((v5 - 6 : Int) : Rat) / ((3 : Int) : Rat) = q5 at *
  unfold g__law_small f__law_small
  rw [sim_runL]
  simp [e1, e2, e3, e4, e5, f4, f5, e6]
/-! ### places -/
theorem dv6 {a : Int} {N : Nat} (h : a.natAbs ≤ N) : Dv 6 N ((a : Rat) / ((6 : Int) : Rat)) := ⟨a, rfl, h⟩
structure Grow6 (q0 q : Rat) (zs : List Nu) : Prop where
  ok : ∀ z ∈ zs, NuOk z
  dv : ∀ z ∈ zs, Dv 6 (180 + 18 * zs.length) z.2
  dq : Dv 6 (180 + 18 * zs.length) q
  lo : ∀ z ∈ zs, q0 ≤ z.2
  lq : q0 ≤ q
  hi : ∀ z ∈ zs, z.2 ≤ q0 + 3 * ((zs.length - 1 : Nat) : Int)
  hq : q ≤ q0 + 3 * ((zs.length : Nat) : Int)
  lt : ∀ z ∈ zs, z.2 < q
  up : (xsOf zs).Pairwise (· < ·)
def stepsL : List PyData := [rq 1, rq 1, rq 2, rq 3, rq (1 / 2), rq (4 / 3)]
theorem steps_in {x : PyData} (h : x ∈ stepsL) : ∃ r : Rat, x = rq r ∧ 0 < r ∧ r ≤ 3 ∧ Dv 6 18 r := by
  have w : ∀ (r : Rat) (a : Int), x = rq r → 0 < r → r ≤ 3 → r = (a : Rat) / ((6 : Int) : Rat) → a.natAbs ≤ 18 → ∃ r : Rat, x = rq r ∧ 0 < r ∧ r ≤ 3 ∧ Dv 6 18 r := fun r a e h0 h3 er ha => ⟨r, e, h0, h3, a, er, ha⟩
  have c6 : ((6 : Int) : Rat) = 6 := rfl
  have h' : x = rq 1 ∨ x = rq 1 ∨ x = rq 2 ∨ x = rq 3 ∨ x = rq (1 / 2) ∨ x = rq (4 / 3) := by simpa [stepsL] using h
  rcases h' with e | e | e | e | e | e
  · exact w 1 6 e (by decide) (by decide) (by rw [c6]; grind) (by decide)
  · exact w 1 6 e (by decide) (by decide) (by rw [c6]; grind) (by decide)
  · exact w 2 12 e (by decide) (by decide) (by have : ((12 : Int) : Rat) = 12 := rfl; rw [c6, this]; grind) (by decide)
  · exact w 3 18 e (by decide) (by decide) (by have : ((18 : Int) : Rat) = 18 := rfl; rw [c6, this]; grind) (by decide)
  · exact w (1 / 2) 3 e (by grind) (by grind) (by have : ((3 : Int) : Rat) = 3 := rfl; rw [c6, this]; grind) (by decide)
  · exact w (4 / 3) 8 e (by grind) (by grind) (by have : ((8 : Int) : Rat) = 8 := rfl; rw [c6, this]; grind) (by decide)
theorem grow_step {q0 q r : Rat} {zs : List Nu} (g : Grow6 q0 q zs) {z : Nu} (hz : NuOk z) (ez : z.2 = q) (h0 : 0 < r) (h3 : r ≤ 3) (hr : Dv 6 18 r) : Grow6 q0 (q + r) (zs ++ [z]) := by
  have ll : (zs ++ [z]).length = zs.length + 1 := by simp
  have lq3 : (((zs.length + 1 : Nat) : Int) : Rat) = ((zs.length : Int) : Rat) + 1 := by
    rw [Int.natCast_add, Rat.intCast_add]; rfl
  refine ⟨fun w hw => ?_, fun w hw => ?_, ?_, fun w hw => ?_, by have := g.lq; grind, fun w hw => ?_, ?_, fun w hw => ?_, ?_⟩
  · rcases List.mem_append.mp hw with q | q
    · exact g.ok w q
    · rw [List.mem_singleton.mp q]; exact hz
  · rw [ll]
    rcases List.mem_append.mp hw with q | q
    · exact (g.dv w q).mono (by omega)
    · rw [List.mem_singleton.mp q, ez]; exact g.dq.mono (by omega)
  · rw [ll]
    exact (g.dq.add hr).mono (by omega)
  · rcases List.mem_append.mp hw with q | q
    · exact g.lo w q
    · rw [List.mem_singleton.mp q, ez]; exact g.lq
  · rw [ll, Nat.add_sub_cancel]
    rcases List.mem_append.mp hw with q | q
    · have := g.lt w q
      have := g.hq
      grind
    · rw [List.mem_singleton.mp q, ez]; exact g.hq
  · rw [ll, lq3]
    have := g.hq
    grind
  · rcases List.mem_append.mp hw with q | q
    · have := g.lt w q
      grind
    · rw [List.mem_singleton.mp q, ez]; grind
  · unfold xsOf
    rw [List.map_append, List.pairwise_append]
    refine ⟨g.up, List.pairwise_singleton _ _, fun a ha b hb => ?_⟩
    obtain ⟨w, hw, rfl⟩ := List.mem_map.mp ha
    have hb' : b = z.2 := by simpa using hb
    rw [hb', ez]
    exact g.lt w hw
theorem places_loop (x1 : Sl) {q0 : Rat} : ∀ (ds : List PyData) (p : List PyData) (zs : List Nu) (q : Rat) (x4 : Sl), Pot p → Grow6 q0 q zs → zs.length + ds.length ≤ 6 →
    ∃ (p' : List PyData) (zs' : List Nu) (q' : Rat) (y4 : Sl), Pot p' ∧ Grow6 q0 q' zs' ∧ zs'.length = zs.length + ds.length ∧ loopFor (dgN 4) b__law_places_0 ds [.own true p, x1, .own false (zs.map en), .dat (rq q), x4] = some (.nx, [.own true p', x1, .own false (zs'.map en), .dat (rq q'), y4])
  | [], p, zs, q, x4, hp, g, _ => ⟨p, zs, q, x4, hp, g, rfl, rfl⟩
  | d :: ds, p, zs, q, x4, hp, g, hl => by
    have hl' : zs.length + (ds.length + 1) ≤ 6 := hl
    have bq : Bq 10 q := (g.dq.mono (M := 300) (by omega)).bq (by decide) (by decide) (by decide)
    have fb : zs.length < big := by show _ < 1000000; omega
    have go : ∀ (z : Nu) (p1 : List PyData), NuOk z → z.2 = q → Pot p1 → (∀ (x : PyData) (p2 : List PyData) (r : Rat), x = rq r → g__law_pick p1 [.list stepsL] = some (.dat x, p2) → g__law_plus [rq q, x] = some (.dat (rq (q + r))) →
        b__law_places_0 [.own true p, x1, .own false (zs.map en), .dat (rq q), .dat d] = some (.nx, [.own true p2, x1, .own false ((zs ++ [z]).map en), .dat (rq (q + r)), .dat d])) →
        ∃ (p' : List PyData) (zs' : List Nu) (q' : Rat) (y4 : Sl), Pot p' ∧ Grow6 q0 q' zs' ∧ zs'.length = zs.length + (d :: ds).length ∧ loopFor (dgN 4) b__law_places_0 (d :: ds) [.own true p, x1, .own false (zs.map en), .dat (rq q), x4] = some (.nx, [.own true p', x1, .own false (zs'.map en), .dat (rq q'), y4]) := fun z p1 hz ez hp1 body => by
      obtain ⟨x, p2, hp2, mx, e2⟩ := pick5 hp1 (l := stepsL) (by simp [stepsL]) (by simp [stepsL])
      obtain ⟨r, rfl, h0, h3, hr⟩ := steps_in mx
      have br : Bq 10 r := (hr.mono (M := 300) (by omega)).bq (by decide) (by decide) (by decide)
      have pl := law_plus (bq.mono (by decide)) (br.mono (by decide))
      obtain ⟨p', zs', q', y4, hp', g', l', e'⟩ := places_loop x1 ds p2 (zs ++ [z]) (q + r) (.dat d) hp2 (grow_step g hz ez h0 h3 hr) (by simp; omega)
      refine ⟨p', zs', q', y4, hp', g', by rw [l']; simp; omega, ?_⟩
      rw [loop_cons (sim_gN ..)]
      show stepK (b__law_places_0 [.own true p, x1, .own false (zs.map en), .dat (rq q), .dat d]) _ _ _ = _
      rw [body _ p2 r rfl e2 pl, stepK_nx]
      exact e'
    have i1 : gIx (rq q) (.int 1) = some (.int q.den) := id rfl
    have i0 : gIx (rq q) (.int 0) = some (.int q.num) := id rfl
    have stl : PyData.list [.tuple [.int 1, .int 1], .tuple [.int 1, .int 1], .tuple [.int 2, .int 1], .tuple [.int 3, .int 1], .tuple [.int 1, .int 2], .tuple [.int 4, .int 3]] = .list stepsL := by
      have h1 : rq (1 / 2) = .tuple [.int 1, .int 2] := by
        have a : ((1 / 2 : Rat)).num = 1 := by decide +kernel
        have b : ((1 / 2 : Rat)).den = 2 := by decide +kernel
        unfold rq; rw [a, b]; rfl
      have h2 : rq (4 / 3) = .tuple [.int 4, .int 3] := by
        have a : ((4 / 3 : Rat)).num = 4 := by decide +kernel
        have b : ((4 / 3 : Rat)).den = 3 := by decide +kernel
        unfold rq; rw [a, b]; rfl
      unfold stepsL
      rw [h1, h2]
      rfl
    by_cases c : q.den = 1
    · obtain ⟨v, p1, hp1, a1, b1, e1⟩ := draw hp (m := 4) (by omega) (by omega)
      by_cases cv : 0 < v
      · refine go (true, q) p1 (fun _ => c) rfl hp1 fun x p2 r ex e2 pl => ?_
        unfold b__law_places_0
        simp [i1, i0, c, e1, cv, stl, e2, pl, fb, en]
      · refine go (false, q) p1 (fun z => nomatch z) rfl hp1 fun x p2 r ex e2 pl => ?_
        unfold b__law_places_0
        simp [i1, i0, c, e1, cv, stl, e2, pl, fb, en]
    · refine go (false, q) p (fun z => nomatch z) rfl hp fun x p2 r ex e2 pl => ?_
      have c' : ¬ (q.den : Int) = 1 := by omega
      unfold b__law_places_0
      simp [i1, i0, c, c', stl, e2, pl, fb, en]
theorem places {p : List PyData} (hp : Pot p) {n : Nat} (h1 : 1 ≤ n) (h6 : n ≤ 6) : ∃ (zs : List Nu) (p' : List PyData), Pot p' ∧ ZsOk zs ∧ zs.length = n ∧ g__law_places p [.int n] = some (.new (zs.map en), p') := by
  obtain ⟨z, p1, hp1, ok, sm, e1⟩ := small hp
  have lp := law_pair ok
  have g0 : Grow6 z.2 z.2 [] := ⟨(fun _ q => nomatch q), (fun _ q => nomatch q), Dv.mono sm (by decide), (fun _ q => nomatch q), Rat.le_refl, (fun _ q => nomatch q), by show z.2 ≤ z.2 + 3 * ((0 : Int) : Rat); have : ((0 : Int) : Rat) = 0 := rfl; rw [this]; grind, (fun _ q => nomatch q), .nil⟩
  obtain ⟨p', zs, q, y4, hp', g, hl, e⟩ := places_loop (.dat (.int n)) ((List.range n).map fun (i : Nat) => .int (i : Int)) p1 [] z.2 .un hp1 g0 (by simp; omega)
  simp at hl
  refine ⟨zs, p', hp', ⟨g.ok, ?_⟩, hl, ?_⟩
  · refine ⟨by unfold xsOf; rw [List.length_map]; omega, by unfold xsOf; rw [List.length_map]; omega, g.up, fun x hx => ?_, fun x hx y hy => ?_⟩
    · obtain ⟨w, hw, rfl⟩ := List.mem_map.mp hx
      exact (g.dv w hw).mono (by omega)
    · obtain ⟨w, hw, rfl⟩ := List.mem_map.mp hx
      obtain ⟨v, hv, rfl⟩ := List.mem_map.mp hy
      have a := g.hi w hw
      have b := g.lo v hv
      have l5 : (((zs.length - 1 : Nat) : Int) : Rat) ≤ ((5 : Int) : Rat) := Rat.intCast_le_intCast.mpr (by omega)
      have c5 : ((5 : Int) : Rat) = 5 := rfl
      rw [c5] at l5
      grind
  · unfold g__law_places f__law_places
    rw [sim_runL]
    simp at e
    simp [e1, lp, -irgK_0, rng (n := n) (by omega), e]
end Q13
namespace Q13
open PySem PySem.Spec PyProof.Rows L2 Jd
/-! ### drawn coefficients -/
theorem drawn_lc (x1 x2 x3 x4 x5 x6 x7 x8 x9 x10 x11 x12 x13 x14 x15 x16 x17 x18 x20 x21 : Sl) : ∀ (ds : List PyData) (p : List PyData), Pot p → ∃ (p' : List PyData) (qs : List Rat), Pot p' ∧ qs.length = ds.length ∧ (∀ q ∈ qs, Sml q) ∧
    loopLc [19] (dgN 19) dYes (dCall 1 g__law_pair (dEsC (dCallL 0 g__law_small 0 dEs0) dEs0)) ds [.own true p, x1, x2, x3, x4, x5, x6, x7, x8, x9, x10, x11, x12, x13, x14, x15, x16, x17, x18, .un, x20, x21] = some (qs.map rq, [.own true p', x1, x2, x3, x4, x5, x6, x7, x8, x9, x10, x11, x12, x13, x14, x15, x16, x17, x18, .un, x20, x21])
  | [], p, hp => ⟨p, [], hp, rfl, (fun _ q => nomatch q), rfl⟩
  | d :: ds, p, hp => by
    obtain ⟨z, p1, hp1, ok, sm, e1⟩ := small hp
    obtain ⟨p', qs, hp', hl, hq, e2⟩ := drawn_lc x1 x2 x3 x4 x5 x6 x7 x8 x9 x10 x11 x12 x13 x14 x15 x16 x17 x18 x20 x21 ds p1 hp1
    refine ⟨p', z.2 :: qs, hp', by simp [hl], fun q h => ?_, ?_⟩
    · rcases List.mem_cons.mp h with rfl | h
      · exact sm
      · exact hq q h
    have lp := law_pair ok
    obtain ⟨te, hte⟩ : ∃ te, te = (dCall 1 g__law_pair (dEsC (dCallL 0 g__law_small 0 dEs0) dEs0)) := ⟨_, rfl⟩
    have e3 : te [.own true p, x1, x2, x3, x4, x5, x6, x7, x8, x9, x10, x11, x12, x13, x14, x15, x16, x17, x18, .dat d, x20, x21] = some (rq z.2, [.own true p1, x1, x2, x3, x4, x5, x6, x7, x8, x9, x10, x11, x12, x13, x14, x15, x16, x17, x18, .dat d, x20, x21]) := by
      rw [hte]
      simp [e1, lp]
    rw [← hte] at e2 ⊢
    show ((te [.own true p, x1, x2, x3, x4, x5, x6, x7, x8, x9, x10, x11, x12, x13, x14, x15, x16, x17, x18, .dat d, x20, x21]).bind fun q => (loopLc [19] (dgN 19) dYes te ds (wipeG q.2 [19])).bind fun z => some (q.1 :: z.1, z.2)) = _
    rw [e3]
    show ((loopLc [19] (dgN 19) dYes te ds [.own true p1, x1, x2, x3, x4, x5, x6, x7, x8, x9, x10, x11, x12, x13, x14, x15, x16, x17, x18, .un, x20, x21]).bind fun y => some (rq z.2 :: y.1, y.2)) = _
    rw [e2]
    rfl
theorem drawn_1 {n : Nat} (hn : n ≤ 6) (x1 x2 x4 x5 x6 x7 x8 x9 x10 x11 x12 x13 x14 x15 x16 x17 x18 x20 x21 : Sl) {p : List PyData} (hp : Pot p) : ∃ (p' : List PyData) (qs : List Rat), Pot p' ∧ qs.length = n ∧ (∀ q ∈ qs, Sml q) ∧
    c__law_right_1 [.own true p, x1, x2, .dat (.int n), x4, x5, x6, x7, x8, x9, x10, x11, x12, x13, x14, x15, x16, x17, x18, .un, x20, x21] = some (qs.map rq, [.own true p', x1, x2, .dat (.int n), x4, x5, x6, x7, x8, x9, x10, x11, x12, x13, x14, x15, x16, x17, x18, .un, x20, x21]) := by
  obtain ⟨p', qs, hp', hl, hq, e⟩ := drawn_lc x1 x2 (.dat (.int n)) x4 x5 x6 x7 x8 x9 x10 x11 x12 x13 x14 x15 x16 x17 x18 x20 x21 ((List.range n).map fun (i : Nat) => .int (i : Int)) p hp
  rw [List.length_map, List.length_range] at hl
  refine ⟨p', qs, hp', hl, hq, ?_⟩
  have b : n ≤ big := by have : big = 1000000 := rfl; omega
  unfold c__law_right_1
  simp [-irgK_0, rng (n := n) (by omega), e, b]
theorem drawn_2 {n : Nat} (hn : n ≤ 6) (x1 x2 x4 x5 x6 x7 x8 x9 x10 x11 x12 x13 x14 x15 x16 x17 x18 x20 x21 : Sl) {p : List PyData} (hp : Pot p) : ∃ (p' : List PyData) (qs : List Rat), Pot p' ∧ qs.length = n ∧ (∀ q ∈ qs, Sml q) ∧
    c__law_right_2 [.own true p, x1, x2, .dat (.int n), x4, x5, x6, x7, x8, x9, x10, x11, x12, x13, x14, x15, x16, x17, x18, .un, x20, x21] = some (qs.map rq, [.own true p', x1, x2, .dat (.int n), x4, x5, x6, x7, x8, x9, x10, x11, x12, x13, x14, x15, x16, x17, x18, .un, x20, x21]) := drawn_1 hn x1 x2 x4 x5 x6 x7 x8 x9 x10 x11 x12 x13 x14 x15 x16 x17 x18 x20 x21 hp
theorem num_pos {q : Rat} : 0 < q.num ↔ 0 < q := by
  have a := Rat.num_nonneg (q := q)
  have b := Rat.num_eq_zero (q := q)
  constructor
  · intro w
    have h0 := a.mp (by omega)
    have h1 : q ≠ 0 := fun e => by rw [b.mpr e] at w; omega
    grind
  · intro w
    have h0 := a.mpr (Rat.le_of_lt w)
    have h1 : q.num ≠ 0 := fun e => by rw [b.mp e] at w; exact absurd w (by decide)
    omega
/-! ### the law's parts -/
section
variable {zs : List Nu} (h : ZsOk zs)
include h
theorem num_sign {pre post : List Rat} {x : Rat} (e : xsOf zs = pre ++ x :: post) : (0 < (Nv (xsOf zs) x).num) ↔ (xsOf zs).length % 2 = (pre.length + 1) % 2 := by
  have up := h.pl.up
  have nd := h.pl.nd
  rw [e] at up nd
  have l1 : ∀ y ∈ pre, y < x := fun y hy => (List.pairwise_append.mp up).2.2 y hy x List.mem_cons_self
  have l2 : ∀ y ∈ post, x < y := fun y hy => (List.pairwise_cons.mp (List.pairwise_append.mp up).2.1).1 y hy
  have ne := pd_ne x (xsOf zs)
  have ep : pd x (xsOf zs) = pd x pre * pd x post := by
    rw [e, pd_app]
    show pd x pre * (fac x x * pd x post) = _
    have : fac x x = 1 := if_pos rfl
    rw [this]; grind
  have p1 := pd_pos pre l1
  have p2 := pd_sign post l2
  have q : 0 < (Nv (xsOf zs) x).num ↔ 0 < pd x (xsOf zs) := by
    rw [num_pos]
    unfold Nv
    exact inv_pos_iff ne
  rw [q, ep]
  have q2 : 0 < pd x pre * pd x post ↔ 0 < pd x post := by
    constructor
    · intro w
      refine Rat.not_le.mp fun c => ?_
      have : pd x pre * pd x post ≤ 0 := by
        have := Rat.mul_nonneg (Rat.le_of_lt p1) (show 0 ≤ -(pd x post) by grind)
        grind
      grind
    · intro w
      exact Rat.mul_pos p1 w
  rw [q2, p2]
  have ll : (xsOf zs).length = pre.length + (post.length + 1) := by rw [e]; simp
  omega
theorem signs_eq : (xsOf zs).map (fun x => PyData.bool (decide ((Nv (xsOf zs) x).num > 0))) = (List.range (xsOf zs).length).map fun (i : Nat) => PyData.bool (decide (((xsOf zs).length - i) % 2 = 1)) := by
  refine List.ext_getElem (by simp) fun i h1 h2 => ?_
  simp at h1 h2 ⊢
  have e : xsOf zs = (xsOf zs).take i ++ (xsOf zs)[i] :: (xsOf zs).drop (i + 1) := by
    rw [← List.drop_eq_getElem_cons (by simpa using h1), List.take_append_drop]
  have s := num_sign h e
  rw [List.length_take] at s
  rw [s]
  omega
end
end Q13
namespace Q13
open PySem PySem.Spec PyProof.Rows L2 Jd
section
variable {zs : List Nu} (h : ZsOk zs)
include h
theorem xs_len : (xsOf zs).length = zs.length := by unfold xsOf; rw [List.length_map]
theorem turn0 {k : Nat} (hk : k < (xsOf zs).length) (x0 x1 x4 x5 x7 x8 x9 x11 x12 x13 x14 x15 x17 x18 x19 x20 x21 : Sl) :
    b__law_right_0 [x0, x1, .dat (.list ((xsOf zs).map rq)), .dat (.int (xsOf zs).length), x4, x5, .dat (.list ((xsOf zs).map fun x => rq (Nv (xsOf zs) x))), x7, x8, x9, .dat (.int (k : Nat)), x11, x12, x13, x14, x15, .un, x17, x18, x19, x20, x21] = some (.nx, [x0, x1, .dat (.list ((xsOf zs).map rq)), .dat (.int (xsOf zs).length), x4, x5, .dat (.list ((xsOf zs).map fun x => rq (Nv (xsOf zs) x))), x7, x8, x9, .dat (.int (k : Nat)), x11, x12, x13, x14, x15, .un, x17, x18, x19, x20, x21]) := by
  have hm := h.pl.most
  have e : loopLc [16] (dgN 16) dYes (dCall 2 g__law_power (dEsC (dVar 16) (dEsC (dVar 10) dEs0))) ((xsOf zs).map rq) [x0, x1, .dat (.list ((xsOf zs).map rq)), .dat (.int (xsOf zs).length), x4, x5, .dat (.list ((xsOf zs).map fun x => rq (Nv (xsOf zs) x))), x7, x8, x9, .dat (.int (k : Nat)), x11, x12, x13, x14, x15, .un, x17, x18, x19, x20, x21] = some ((xsOf zs).map fun x => rq (x ^ k), [x0, x1, .dat (.list ((xsOf zs).map rq)), .dat (.int (xsOf zs).length), x4, x5, .dat (.list ((xsOf zs).map fun x => rq (Nv (xsOf zs) x))), x7, x8, x9, .dat (.int (k : Nat)), x11, x12, x13, x14, x15, .un, x17, x18, x19, x20, x21]) :=
    loopLc_map _ fun x hx => ⟨_, rfl, rfl, by simp [law_power (h.pl.six x hx).b (show k ≤ 50 by omega)], rfl⟩
  have b : (xsOf zs).length ≤ big := len_b (by omega)
  have c : c__law_right_5 [x0, x1, .dat (.list ((xsOf zs).map rq)), .dat (.int (xsOf zs).length), x4, x5, .dat (.list ((xsOf zs).map fun x => rq (Nv (xsOf zs) x))), x7, x8, x9, .dat (.int (k : Nat)), x11, x12, x13, x14, x15, .un, x17, x18, x19, x20, x21] = some ((xsOf zs).map fun x => rq (x ^ k), [x0, x1, .dat (.list ((xsOf zs).map rq)), .dat (.int (xsOf zs).length), x4, x5, .dat (.list ((xsOf zs).map fun x => rq (Nv (xsOf zs) x))), x7, x8, x9, .dat (.int (k : Nat)), x11, x12, x13, x14, x15, .un, x17, x18, x19, x20, x21]) := by
    unfold c__law_right_5
    simp [e, b]
  have d := law_dot (u := Nv (xsOf zs)) (v := fun x => x ^ k) (bu := 110) (bv := 60) (l := xsOf zs) (fun x hx => ⟨nv_b h.pl.nm hx, (pow_b (h.pl.six x hx).b k).mono (by omega)⟩) hm (by decide)
  rw [D_dot, Tpow k (xsOf zs) h.pl.nd hk] at d
  have q : rq (if k + 1 = (xsOf zs).length then 1 else 0) = .tuple [.int (if (k : Int) = ((xsOf zs).length : Int) - 1 then 1 else 0), .int 1] := by
    by_cases c : k + 1 = (xsOf zs).length
    · rw [if_pos c, if_pos (by omega)]; rfl
    · rw [if_neg c, if_neg (by omega)]; rfl
  rw [q] at d
  have fw : fitw 6 1 (.tuple [.int (if (k : Int) = ((xsOf zs).length : Int) - 1 then 1 else 0), .int 1]) = true := by
    split <;> exact fit_two rfl rfl
  have ns := ne_self fw (by omega)
  generalize ((xsOf zs).map fun x => rq (Nv (xsOf zs) x)) = NN at *
  generalize ((xsOf zs).map fun x => rq (x ^ k)) = PP at *
  unfold b__law_right_0
  have gb : gInt [.bool (decide ((k : Int) = ((xsOf zs).length : Int) - 1))] = some (.int (if (k : Int) = ((xsOf zs).length : Int) - 1 then 1 else 0)) := by
    by_cases c : (k : Int) = ((xsOf zs).length : Int) - 1
    · rw [decide_eq_true c, if_pos c]; rfl
    · rw [decide_eq_false c, if_neg c]; rfl
  simp [c, d, gb, ns]
end
end Q13
namespace Q13
open PySem PySem.Spec PyProof.Rows L2 Jd
theorem E_pos : 0 < Ed * 6 ^ 5 := Nat.mul_pos Ed_pos (by decide)
theorem w1 : Ed * 6 ^ 5 * 6 ^ 5 < 2 ^ 1000 := by decide +kernel
theorem w2 : 12 * (6 * (Ad * 306 ^ 5) * 300 ^ 5) < 2 ^ 1000 := by decide +kernel
theorem w3 : Ed * 6 ^ 5 * 6 ^ 6 < 2 ^ 1000 := by decide +kernel
theorem w4 : 6 * (6 * (Ad * 306 ^ 5) * 300 ^ 6) < 2 ^ 1000 := by decide +kernel
theorem flag_map (c : List Rat) : c.map rq = (c.map fun a => ((false, a) : Nu)).map en := by rw [List.map_map]; rfl
theorem flag_xs (c : List Rat) : xsOf (c.map fun a => ((false, a) : Nu)) = c := by unfold xsOf; rw [List.map_map]; exact List.map_id _
theorem last_ix : ∀ {c : List Rat}, c ≠ [] → gIx (.list (c.map rq)) (.int (-1)) = some (rq (lastQ c)) := fun {c} hc => by
  obtain ⟨c0, t, rfl⟩ : ∃ c0 t, c = c0 ++ [t] := ⟨_, _, (List.dropLast_concat_getLast hc).symm⟩
  rw [last_app]
  show atI ((c0 ++ [t]).map rq) (-1) = _
  have l : ((c0 ++ [t]).map rq).length = c0.length + 1 := by simp
  unfold atI ixN
  rw [if_neg (by decide), if_pos (by rw [l]; omega), l, show ((-1 : Int) + ((c0.length + 1 : Nat) : Int)).toNat = c0.length by omega]
  show ((c0 ++ [t]).map rq)[c0.length]? = _
  simp
/-- coefficients as told -/
structure Cf (f : Rat → Rat) (xs c : List Rat) : Prop where
  len : c.length = xs.length
  ok : ∀ x ∈ xs, evalP c x = f x
  dv : ∀ a ∈ c, Dv (Ed * 6 ^ 5) (6 * (Ad * 306 ^ 5)) a
section
variable {zs : List Nu} (h : ZsOk zs) {f : Rat → Rat} (hf : ∀ x ∈ xsOf zs, Wo (f x)) {c : List Rat} (hc : Cf f (xsOf zs) c)
include h hf hc
theorem turn1 {x : Rat} (hx : x ∈ xsOf zs) (x0 x1 x2 x3 x4 x5 x6 x7 x8 x9 x10 x11 x12 x13 x14 x18 x19 x20 x21 : Sl) : b__law_right_1 [x0, x1, x2, x3, x4, x5, x6, x7, x8, x9, x10, x11, x12, x13, x14, .dat (.list (c.map rq)), .dat (rq x), .dat (rq (f x)), x18, x19, x20, x21] = some (.nx, [x0, x1, x2, x3, x4, x5, x6, x7, x8, x9, x10, x11, x12, x13, x14, .dat (.list (c.map rq)), .dat (rq x), .dat (rq (f x)), x18, x19, x20, x21]) := by
  have hm := h.pl.most
  have hp := h.pl.pos
  have hl := hc.len
  have six := h.pl.six x hx
  have ev := hc.ok x hx
  have wo := law_worth six E_pos w1 w2 (by omega) hc.dv
  rw [ev] at wo
  have pa : ∀ s, Sq s (c.map rq) → g_power_at [s, rq x] = some (.dat (rq (f x))) := fun s hs => by
    have := power_at (z := (false, x)) (fun q => nomatch q) six (cs := c.map fun a => ((false, a) : Nu)) (fun a ha => by obtain ⟨b, _, rfl⟩ := List.mem_map.mp ha; exact fun q => nomatch q) (by rw [List.length_map]; omega) (by rw [List.length_map]; omega) E_pos w3 w4 (fun a ha => by obtain ⟨b, hb, rfl⟩ := List.mem_map.mp ha; exact hc.dv b hb) (s := s) (by rw [← flag_map]; exact hs)
    rw [flag_xs] at this
    show g_power_at [s, en (false, x)] = _
    rw [this, ev]
  have p1 := pa _ (.inl rfl)
  have p2 := pa _ (.inr rfl)
  have fx := fit_rq ((hf x hx).b.mono (show 60 ≤ 1500 by decide))
  have n1 := ne_self fx (by omega)
  obtain ⟨S, rS⟩ := repr_l (fit_pair fx fx) (by omega)
  have pk : ∀ x y : PyData, Jd.pick PyData.none [1, 0] [x, y] = [y, x] := fun _ _ => rfl
  generalize c.map rq = C at *
  unfold b__law_right_1
  simp [wo, n1, p1, p2, pk, rS]
theorem loop1 (x0 x1 x2 x3 x4 x5 x6 x7 x8 x9 x10 x11 x12 x13 x14 x18 x19 x20 x21 : Sl) (y16 y17 : Sl) : ∃ d16 d17, loopFor (dgT 2 (dgsC (dgN 16) (dgsC (dgN 17) dgs0))) b__law_right_1 ((xsOf zs).map fun x => .tuple [rq x, rq (f x)]) [x0, x1, x2, x3, x4, x5, x6, x7, x8, x9, x10, x11, x12, x13, x14, .dat (.list (c.map rq)), y16, y17, x18, x19, x20, x21] = some (.nx, [x0, x1, x2, x3, x4, x5, x6, x7, x8, x9, x10, x11, x12, x13, x14, .dat (.list (c.map rq)), (.dat d16), (.dat d17), x18, x19, x20, x21]) := by
  have go : ∀ (l : List Rat) (y16 y17 : Sl), (∀ x ∈ l, x ∈ xsOf zs) → (l ≠ [] ∨ ∃ d16 d17, y16 = .dat d16 ∧ y17 = .dat d17) → ∃ d16 d17, loopFor (dgT 2 (dgsC (dgN 16) (dgsC (dgN 17) dgs0))) b__law_right_1 (l.map fun x => .tuple [rq x, rq (f x)]) [x0, x1, x2, x3, x4, x5, x6, x7, x8, x9, x10, x11, x12, x13, x14, .dat (.list (c.map rq)), y16, y17, x18, x19, x20, x21] = some (.nx, [x0, x1, x2, x3, x4, x5, x6, x7, x8, x9, x10, x11, x12, x13, x14, .dat (.list (c.map rq)), (.dat d16), (.dat d17), x18, x19, x20, x21]) := fun l => by
    induction l with
    | nil =>
      intro y16 y17 _ hn
      rcases hn with q | ⟨d16, d17, rfl, rfl⟩
      · exact absurd rfl q
      · exact ⟨d16, d17, rfl⟩
    | cons x l ih =>
      intro y16 y17 hx _
      obtain ⟨d16, d17, e⟩ := ih (.dat (rq x)) (.dat (rq (f x))) (fun y hy => hx y (List.mem_cons_of_mem _ hy)) (.inr ⟨_, _, rfl, rfl⟩)
      have t := turn1 h hf hc (hx x List.mem_cons_self) x0 x1 x2 x3 x4 x5 x6 x7 x8 x9 x10 x11 x12 x13 x14 x18 x19 x20 x21
      refine ⟨d16, d17, ?_⟩
      rw [List.map_cons, loop_cons (G1 := [x0, x1, x2, x3, x4, x5, x6, x7, x8, x9, x10, x11, x12, x13, x14, .dat (.list (c.map rq)), .dat (rq x), .dat (rq (f x)), x18, x19, x20, x21]) rfl, t, stepK_nx]
      exact e
  exact go _ y16 y17 (fun x hx => hx) (.inl fun e => by have := h.pl.pos; rw [e] at this; simp at this)
end
section
variable {zs : List Nu} (h : ZsOk zs) {f : Rat → Rat} (hf : ∀ x ∈ xsOf zs, Wo (f x))
include h hf
theorem turn2 (x0 x4 x5 x7 x8 x9 x10 x19 x20 x21 x12 x13 x14 x15 x16 x17 : Sl) (hs : (x12 = .un ∧ x13 = .un ∧ x14 = .un ∧ x15 = .un ∧ x16 = .un ∧ x17 = .un) ∨ ∃ d12 d13 d14 d15 d16 d17, x12 = .dat d12 ∧ x13 = .dat d13 ∧ x14 = .dat d14 ∧ x15 = .dat d15 ∧ x16 = .dat d16 ∧ x17 = .dat d17) :
    ∃ (c : List Rat) (S : Str) (d16 d17 : PyData), Cf f (xsOf zs) c ∧ b__law_right_2 [x0, .dat (.list (zs.map en)), .dat (.list ((xsOf zs).map rq)), .dat (.int (xsOf zs).length), x4, x5, .dat (.list ((xsOf zs).map fun x => rq (Nv (xsOf zs) x))), x7, x8, x9, x10, .dat (.list ((xsOf zs).map fun x => rq (f x))), x12, x13, x14, x15, x16, x17, .un, x19, x20, x21] = some (.nx, [x0, .dat (.list (zs.map en)), .dat (.list ((xsOf zs).map rq)), .dat (.int (xsOf zs).length), x4, x5, .dat (.list ((xsOf zs).map fun x => rq (Nv (xsOf zs) x))), x7, x8, x9, x10, .dat (.list ((xsOf zs).map fun x => rq (f x))), .dat (.list (zs.map (pz f))), .dat (.str S), .dat (rq (D (xsOf zs) f)), .dat (.list (c.map rq)), .dat d16, .dat d17, .un, x19, x20, x21]) := by
  have hm := h.pl.most
  have hp := h.pl.pos
  have hz := h.most
  have hl := xs_len h
  obtain ⟨c, pl, hc1, hc2, hc3⟩ := power_law h hf (s := .list (zs.map (pz f))) (.inl rfl)
  have hc : Cf f (xsOf zs) c := ⟨hc1, hc2, hc3⟩
  have fP : fitw 6 3 (.list (zs.map (pz f))) = true := fit_lst hz fun z hz' => fit_two (fit_en ((h.six z hz').b.mono (by decide))) (fit_en ((hf z.2 (List.mem_map.mpr ⟨z, hz', rfl⟩)).b.mono (by decide)))
  obtain ⟨S, rS⟩ := repr_l fP (by omega)
  have ld := law_difference h.pl hf
  have lt := law_dot (u := Nv (xsOf zs)) (v := f) (bu := 110) (bv := 60) (l := xsOf zs) (fun x hx => ⟨nv_b h.pl.nm hx, (hf x hx).b⟩) hm (by decide)
  rw [D_dot] at lt
  have bD := D_b h.pl hf
  have fD := fit_rq (bD.mono (show 850 ≤ 1500 by decide))
  have nD := ne_self fD (by omega)
  have df1 := difference h hf (s := .list (zs.map (pz f))) (.inl rfl)
  have df2 := difference h hf (s := .tuple (zs.map (pz f))) (.inr rfl)
  obtain ⟨S2, rD⟩ := repr_l (fit_pair fD fD) (by omega)
  have fC : fitw 6 2 (.list (c.map rq)) = true := fit_lst (by omega) fun a ha => fit_rq ((cq (k := 6) (by omega) (hc3 a ha)).mono (by decide))
  obtain ⟨S3, rC⟩ := repr_l fC (by omega)
  have cne : c ≠ [] := by intro e; rw [e] at hc1; simp at hc1; omega
  have la := last_ix cne
  have tp : lastQ c = D (xsOf zs) f := by rw [← top h.pl.nd cne hc1]; exact D_congr hc2
  rw [tp] at la
  have lenC : ((c.length : Nat) : Int) = ((xsOf zs).length : Int) := by omega
  have z1 : zipD (zs.map en) ((xsOf zs).map fun x => rq (f x)) = zs.map fun z => .tuple [en z, rq (f z.2)] := by
    unfold xsOf
    rw [List.map_map]
    exact zip_same zs
  have z2 : zipD ((xsOf zs).map rq) ((xsOf zs).map fun x => rq (f x)) = (xsOf zs).map fun x => .tuple [rq x, rq (f x)] := zip_same _
  have bz : zs.length ≤ big := len_b (by omega)
  have z3 : ((xsOf zs).map fun x => PyData.tuple [rq x, rq (f x)]) = (xsOf zs).map (pt f) := rfl
  have pk : ∀ x : PyData, Jd.pick PyData.none [0] [x] = [x] := fun _ => rfl
  have c7 : c__law_right_7 [x0, .dat (.list (zs.map en)), .dat (.list ((xsOf zs).map rq)), .dat (.int (xsOf zs).length), x4, x5, .dat (.list ((xsOf zs).map fun x => rq (Nv (xsOf zs) x))), x7, x8, x9, x10, .dat (.list ((xsOf zs).map fun x => rq (f x))), x12, x13, x14, x15, x16, x17, .un, x19, x20, x21] = some (zs.map (pz f), [x0, .dat (.list (zs.map en)), .dat (.list ((xsOf zs).map rq)), .dat (.int (xsOf zs).length), x4, x5, .dat (.list ((xsOf zs).map fun x => rq (Nv (xsOf zs) x))), x7, x8, x9, x10, .dat (.list ((xsOf zs).map fun x => rq (f x))), x12, x13, x14, x15, x16, x17, .un, x19, x20, x21]) := by
    have e : loopLc [18, 17] (dgT 2 (dgsC (dgN 18) (dgsC (dgN 17) dgs0))) dYes (dTup (dEsC (dVar 18) (dEsC (dIf (dB (dOp gEq (dAg (dOp gIx (dPv 17) (dAg (dC (.int 1))))) (dAg (dC (.int 1))))) (dOp gIx (dPv 17) (dAg (dC (.int 0)))) (dVar 17)) dEs0))) (zs.map fun z => .tuple [en z, rq (f z.2)]) [x0, .dat (.list (zs.map en)), .dat (.list ((xsOf zs).map rq)), .dat (.int (xsOf zs).length), x4, x5, .dat (.list ((xsOf zs).map fun x => rq (Nv (xsOf zs) x))), x7, x8, x9, x10, .dat (.list ((xsOf zs).map fun x => rq (f x))), x12, x13, x14, x15, x16, .un, .un, x19, x20, x21] = some (zs.map (pz f), [x0, .dat (.list (zs.map en)), .dat (.list ((xsOf zs).map rq)), .dat (.int (xsOf zs).length), x4, x5, .dat (.list ((xsOf zs).map fun x => rq (Nv (xsOf zs) x))), x7, x8, x9, x10, .dat (.list ((xsOf zs).map fun x => rq (f x))), x12, x13, x14, x15, x16, .un, .un, x19, x20, x21]) :=
      loopLc_map zs fun z hz' => ⟨_, rfl, rfl, by
        have i1 : gIx (rq (f z.2)) (.int 1) = some (.int (f z.2).den) := id rfl
        have i0 : gIx (rq (f z.2)) (.int 0) = some (.int (f z.2).num) := id rfl
        by_cases c : (f z.2).den = 1
        · have ec : en (cn (f z.2)) = .int (f z.2).num := en_int (decide_eq_true c)
          simp [i1, i0, c, pz, ec]
        · have c' : ¬ ((f z.2).den : Int) = 1 := by omega
          have ec : en (cn (f z.2)) = rq (f z.2) := en_rq (decide_eq_false c)
          simp [i1, i0, c, c', pz, ec], rfl⟩
    have bzz : (zipD (zs.map en) ((xsOf zs).map fun x => rq (f x))).length ≤ big := by rw [z1, List.length_map]; exact bz
    rw [← z1] at e
    unfold c__law_right_7
    generalize (xsOf zs).map (fun x => rq (f x)) = W at *
    generalize zs.map en = ZE at *
    generalize zs.map (pz f) = PZ at *
    rcases hs with ⟨rfl, rfl, rfl, rfl, rfl, rfl⟩ | ⟨d12, d13, d14, d15, d16, d17, rfl, rfl, rfl, rfl, rfl, rfl⟩ <;> (simp [e]; exact bzz)
  have la' : atI (c.map rq) (-1) = some (rq (D (xsOf zs) f)) := la
  obtain ⟨d16, d17, lp⟩ := loop1 h hf hc x0 (.dat (.list (zs.map en))) (.dat (.list ((xsOf zs).map rq))) (.dat (.int (xsOf zs).length)) x4 x5 (.dat (.list ((xsOf zs).map fun x => rq (Nv (xsOf zs) x)))) x7 x8 x9 x10 (.dat (.list ((xsOf zs).map fun x => rq (f x)))) (.dat (.list (zs.map (pz f)))) (.dat (.str S)) (.dat (rq (D (xsOf zs) f))) .un x19 x20 x21 x16 x17
  rw [← z2] at lp
  have lz : lzD [.list ((xsOf zs).map rq), .list ((xsOf zs).map fun x => rq (f x))] = some ((xsOf zs).map (pt f)) := by
    rw [lzD_0, if_pos (by rw [List.length_map]; omega), z2, z3]
  have gl : gListN [.list (zs.map (pz f))] = some (zs.map (pz f)) := rfl
  refine ⟨c, S, d16, d17, hc, ?_⟩
  generalize (xsOf zs).map (fun x => rq (Nv (xsOf zs) x)) = NN at *
  generalize (xsOf zs).map (fun x => rq (f x)) = W at *
  generalize (xsOf zs).map (pt f) = PT at *
  generalize zs.map en = ZE at *
  generalize zs.map (pz f) = PZ at *
  generalize (xsOf zs).map rq = XX at *
  have cl : ((c.map rq).length : Int) = ((xsOf zs).length : Int) := by rw [List.length_map]; exact lenC
  generalize c.map rq = CC at *
  unfold b__law_right_2
  rcases hs with ⟨rfl, rfl, rfl, rfl, rfl, rfl⟩ | ⟨e12, e13, e14, e15, e16, e17, rfl, rfl, rfl, rfl, rfl, rfl⟩
  all_goals simp [c7, rS, lz, ld, lt, nD, df1, df2, pk, rD, pl, gl, cl, rC, la', lp, -lzD_0]
end
end Q13
namespace Q13
open PySem PySem.Spec PyProof.Rows L2 Jd
theorem sum_dvl {d N : Nat} (hd : 0 < d) : ∀ l : List Rat, (∀ a ∈ l, Dv d N a) → Dv d (l.length * N) (sumQ l) := fun l h => by
  have := sum_dv (f := id) l hd h
  rw [List.map_id] at this
  exact this
theorem eval_wo {c : List Rat} (hl : c.length ≤ 6) (hc : ∀ a ∈ c, Sml a) {x : Rat} (hx : Six x) : Wo (evalP c x) := by
  have t := sum_dvl (d := 6 * 6 ^ 5) (by decide) (tm x 0 c) (tm_dv hx (by decide) 0 c (by omega) hc)
  rw [tm_sum, Rat.pow_zero, Rat.one_mul, tm_len, show 6 * 6 ^ 5 = 6 ^ 6 by decide] at t
  exact t.mono (Nat.le_trans (Nat.mul_le_mul_right _ hl) (by decide))
theorem as_map : ∀ (xs qs : List Rat), xs.Nodup → qs.length = xs.length → ∃ f : Rat → Rat, qs = xs.map f
  | [], [], _, _ => ⟨fun x => x, rfl⟩
  | [], q :: s, _, h => by simp at h
  | x :: r, [], _, h => by simp at h
  | x :: r, q :: s, nd, h => by
    obtain ⟨g, hg⟩ := as_map r s (List.nodup_cons.mp nd).2 (by simpa using h)
    refine ⟨fun y => if y = x then q else g y, ?_⟩
    have hx := (List.nodup_cons.mp nd).1
    have e : r.map (fun y => if y = x then q else g y) = r.map g := List.map_congr_left fun y hy => if_neg fun (e : y = x) => hx (e ▸ hy)
    rw [List.map_cons, if_pos rfl, e, hg]
section
variable {zs : List Nu} (h : ZsOk zs)
include h
theorem loop0 (x0 x1 x4 x5 x7 x8 x9 x11 x12 x13 x14 x15 x17 x18 x19 x20 x21 : Sl) : ∀ (ks : List Nat) (x10 : Sl), (∀ k ∈ ks, k < (xsOf zs).length) → ∃ y10, loopFor (dgN 10) b__law_right_0 (ks.map fun (i : Nat) => .int (i : Int)) [x0, x1, .dat (.list ((xsOf zs).map rq)), .dat (.int (xsOf zs).length), x4, x5, .dat (.list ((xsOf zs).map fun x => rq (Nv (xsOf zs) x))), x7, x8, x9, x10, x11, x12, x13, x14, x15, .un, x17, x18, x19, x20, x21] = some (.nx, [x0, x1, .dat (.list ((xsOf zs).map rq)), .dat (.int (xsOf zs).length), x4, x5, .dat (.list ((xsOf zs).map fun x => rq (Nv (xsOf zs) x))), x7, x8, x9, y10, x11, x12, x13, x14, x15, .un, x17, x18, x19, x20, x21])
  | [], x10, _ => ⟨x10, rfl⟩
  | k :: ks, x10, hk => by
    obtain ⟨y10, e⟩ := loop0 x0 x1 x4 x5 x7 x8 x9 x11 x12 x13 x14 x15 x17 x18 x19 x20 x21 ks (.dat (.int (k : Nat))) fun j hj => hk j (List.mem_cons_of_mem _ hj)
    refine ⟨y10, ?_⟩
    have t := turn0 h (hk k List.mem_cons_self) x0 x1 x4 x5 x7 x8 x9 x11 x12 x13 x14 x15 x17 x18 x19 x20 x21
    rw [List.map_cons, loop_cons (G1 := [x0, x1, .dat (.list ((xsOf zs).map rq)), .dat (.int (xsOf zs).length), x4, x5, .dat (.list ((xsOf zs).map fun x => rq (Nv (xsOf zs) x))), x7, x8, x9, .dat (.int (k : Nat)), x11, x12, x13, x14, x15, .un, x17, x18, x19, x20, x21]) rfl, t, stepK_nx]
    exact e
theorem right {p : List PyData} (hp : Pot p) : ∃ p', Pot p' ∧ g__law_right p [.list (zs.map en)] = some (.dat (.bool true), p') := by
  have hm := h.pl.most
  have hp0 := h.pl.pos
  have hz := h.most
  have hl := xs_len h
  have bz : zs.length ≤ big := len_b (by omega)
  have bx : (xsOf zs).length ≤ big := len_b (by omega)
  obtain ⟨p1, qs, hp1, lq, sq, d1⟩ := drawn_1 (n := (xsOf zs).length) hm (.dat (.list (zs.map en))) (.dat (.list ((xsOf zs).map rq))) .un .un .un .un .un .un .un .un .un .un .un .un .un .un .un .un .un hp
  obtain ⟨p2, ws, hp2, lw, sw, d2⟩ := drawn_2 (n := (xsOf zs).length) hm (.dat (.list (zs.map en))) (.dat (.list ((xsOf zs).map rq))) (.dat (.list (qs.map rq))) .un .un .un .un .un .un .un .un .un .un .un .un .un .un .un .un hp1
  obtain ⟨f1, hf1⟩ := as_map (xsOf zs) ws h.pl.nd lw
  have wo1 : ∀ x ∈ xsOf zs, Wo (f1 x) := fun x hx => (sw (f1 x) (by rw [hf1]; exact List.mem_map.mpr ⟨x, hx, rfl⟩)).wo
  have wo2 : ∀ x ∈ xsOf zs, Wo (evalP qs x) := fun x hx => eval_wo (by omega) sq (h.pl.six x hx)
  have eW : ws.map rq = (xsOf zs).map fun x => rq (f1 x) := by rw [hf1, List.map_map]; rfl
  have c0 : c__law_right_0 [.own true p, .dat (.list (zs.map en)), .un, .un, .un, .un, .un, .un, .un, .un, .un, .un, .un, .un, .un, .un, .un, .un, .un, .un, .un, .un] = some ((xsOf zs).map rq, [.own true p, .dat (.list (zs.map en)), .un, .un, .un, .un, .un, .un, .un, .un, .un, .un, .un, .un, .un, .un, .un, .un, .un, .un, .un, .un]) := by
    have e : loopLc [18] (dgN 18) dYes (dCall 1 g__law_pair (dEsC (dVar 18) dEs0)) (zs.map en) [.own true p, .dat (.list (zs.map en)), .un, .un, .un, .un, .un, .un, .un, .un, .un, .un, .un, .un, .un, .un, .un, .un, .un, .un, .un, .un] = some (zs.map fun z => rq z.2, [.own true p, .dat (.list (zs.map en)), .un, .un, .un, .un, .un, .un, .un, .un, .un, .un, .un, .un, .un, .un, .un, .un, .un, .un, .un, .un]) :=
      loopLc_map zs fun z hz' => ⟨_, rfl, rfl, by simp [law_pair (h.ok z hz')], rfl⟩
    unfold c__law_right_0 xsOf
    rw [List.map_map]
    simp [e, bz]
  have ln := law_numbers h.pl.nm
  have fPl : fitw 6 2 (.list (zs.map en)) = true := fit_lst hz fun z hz' => fit_en ((h.six z hz').b.mono (by decide))
  obtain ⟨S, rS⟩ := repr_l fPl (by omega)
  have dn1 := difference_numbers h (s := .list (zs.map en)) (.inl rfl)
  have dn2 := difference_numbers h (s := .tuple (zs.map en)) (.inr rfl)
  have fN : fitw 6 2 (.list ((xsOf zs).map fun x => rq (Nv (xsOf zs) x))) = true := fit_lst hm fun x hx => fit_rq ((nv_b h.pl.nm hx).mono (by decide))
  obtain ⟨S2, rN⟩ := repr_l (fit_pair fN fN) (by omega)
  have pk1 : ∀ x : PyData, Jd.pick PyData.none [0] [x] = [x] := fun _ => rfl
  have bN : (((xsOf zs).map fun x => rq (Nv (xsOf zs) x))).length < big := by rw [List.length_map]; show _ < 1000000; omega
  have c3 : ∀ (a8 : List PyData), c__law_right_3 [.own true p2, .dat (.list (zs.map en)), .dat (.list ((xsOf zs).map rq)), .dat (.int (xsOf zs).length), .dat (.list (qs.map rq)), .dat (.list (ws.map rq)), .dat (.list ((xsOf zs).map fun x => rq (Nv (xsOf zs) x))), .dat (.str S), .own false a8, .un, .un, .un, .un, .un, .un, .un, .un, .un, .un, .un, .un, .un] = some ((xsOf zs).map (fun x => PyData.bool (decide ((Nv (xsOf zs) x).num > 0))), [.own true p2, .dat (.list (zs.map en)), .dat (.list ((xsOf zs).map rq)), .dat (.int (xsOf zs).length), .dat (.list (qs.map rq)), .dat (.list (ws.map rq)), .dat (.list ((xsOf zs).map fun x => rq (Nv (xsOf zs) x))), .dat (.str S), .own false a8, .un, .un, .un, .un, .un, .un, .un, .un, .un, .un, .un, .un, .un]) := fun a8 => by
    have e : loopLc [20] (dgN 20) dYes (dOp gGt (dAg (dOp gIx (dPv 20) (dAg (dC (.int 0))))) (dAg (dC (.int 0)))) ((xsOf zs).map fun x => rq (Nv (xsOf zs) x)) [.own true p2, .dat (.list (zs.map en)), .dat (.list ((xsOf zs).map rq)), .dat (.int (xsOf zs).length), .dat (.list (qs.map rq)), .dat (.list (ws.map rq)), .dat (.list ((xsOf zs).map fun x => rq (Nv (xsOf zs) x))), .dat (.str S), .own false a8, .un, .un, .un, .un, .un, .un, .un, .un, .un, .un, .un, .un, .un] = some ((xsOf zs).map (fun x => PyData.bool (decide ((Nv (xsOf zs) x).num > 0))), [.own true p2, .dat (.list (zs.map en)), .dat (.list ((xsOf zs).map rq)), .dat (.int (xsOf zs).length), .dat (.list (qs.map rq)), .dat (.list (ws.map rq)), .dat (.list ((xsOf zs).map fun x => rq (Nv (xsOf zs) x))), .dat (.str S), .own false a8, .un, .un, .un, .un, .un, .un, .un, .un, .un, .un, .un, .un, .un]) :=
      loopLc_map _ fun x hx => ⟨_, rfl, rfl, by
        have i0 : ∀ q : Rat, gIx (rq q) (.int 0) = some (.int q.num) := fun q => id rfl
        simp [i0], rfl⟩
    unfold c__law_right_3
    simp [e, bx]
  obtain ⟨B, hB⟩ : ∃ B, B = (xsOf zs).map (fun x => PyData.bool (decide ((Nv (xsOf zs) x).num > 0))) := ⟨_, rfl⟩
  have c4 : ∀ (a8 : List PyData) (b9 : PyData), c__law_right_4 [.own true p2, .dat (.list (zs.map en)), .dat (.list ((xsOf zs).map rq)), .dat (.int (xsOf zs).length), .dat (.list (qs.map rq)), .dat (.list (ws.map rq)), .dat (.list ((xsOf zs).map fun x => rq (Nv (xsOf zs) x))), .dat (.str S), .own false a8, .dat b9, .un, .un, .un, .un, .un, .un, .un, .un, .un, .un, .un, .un] = some (B, [.own true p2, .dat (.list (zs.map en)), .dat (.list ((xsOf zs).map rq)), .dat (.int (xsOf zs).length), .dat (.list (qs.map rq)), .dat (.list (ws.map rq)), .dat (.list ((xsOf zs).map fun x => rq (Nv (xsOf zs) x))), .dat (.str S), .own false a8, .dat b9, .un, .un, .un, .un, .un, .un, .un, .un, .un, .un, .un, .un]) := fun a8 b9 => by
    rw [hB, signs_eq h]
    have e : loopLc [19] (dgN 19) dYes (dOp gEq (dAg (dOp gMod (dAg (dFn gInt (dPsC (dAg (dOp gSub (dPv 3) (dPv 19))) dPs0))) (dAg (dC (.int 2))))) (dAg (dC (.int 1)))) ((List.range (xsOf zs).length).map fun (i : Nat) => .int (i : Int)) [.own true p2, .dat (.list (zs.map en)), .dat (.list ((xsOf zs).map rq)), .dat (.int (xsOf zs).length), .dat (.list (qs.map rq)), .dat (.list (ws.map rq)), .dat (.list ((xsOf zs).map fun x => rq (Nv (xsOf zs) x))), .dat (.str S), .own false a8, .dat b9, .un, .un, .un, .un, .un, .un, .un, .un, .un, .un, .un, .un] =
        some ((List.range (xsOf zs).length).map (fun (i : Nat) => PyData.bool (decide (((xsOf zs).length - i) % 2 = 1))), [.own true p2, .dat (.list (zs.map en)), .dat (.list ((xsOf zs).map rq)), .dat (.int (xsOf zs).length), .dat (.list (qs.map rq)), .dat (.list (ws.map rq)), .dat (.list ((xsOf zs).map fun x => rq (Nv (xsOf zs) x))), .dat (.str S), .own false a8, .dat b9, .un, .un, .un, .un, .un, .un, .un, .un, .un, .un, .un, .un]) :=
      loopLc_map _ fun i hi => ⟨_, rfl, rfl, by
        have hi' := List.mem_range.mp hi
        have d2 : divOk 2 = true := divOk_of (by omega) (sm_lt ⟨by omega, by omega⟩)
        have f2 : (((xsOf zs).length : Int) - (i : Int)).fmod 2 = (((xsOf zs).length : Int) - (i : Int)) % 2 := Int.fmod_eq_emod_of_nonneg _ (by omega)
        have q : ((((xsOf zs).length : Int) - (i : Int)) % 2 = 1) = ((((xsOf zs).length - i) % 2) = 1) := by
          apply propext
          omega
        simp [d2, f2, q], rfl⟩
    unfold c__law_right_4
    simp [-irgK_0, rng (n := (xsOf zs).length) (by omega), e, bx]
  have nB : gNe (.list B) (.list B) = some (.bool false) := ne_self (n := 6) (k := 1) (by rw [hB]; exact fit_lst hm fun x hx => fitw_bool) (by omega)
  rw [← hB] at c3
  obtain ⟨y10, l0⟩ := loop0 h (.own true p2) (.dat (.list (zs.map en))) (.dat (.list (qs.map rq))) (.dat (.list (ws.map rq))) (.dat (.str S)) (.own false (((xsOf zs).map fun x => rq (Nv (xsOf zs) x)) ++ [.none])) (.dat (.list B)) .un .un .un .un .un .un .un .un .un .un (List.range (xsOf zs).length) .un fun k hk => List.mem_range.mp hk
  have c6 : c__law_right_6 [.own true p2, .dat (.list (zs.map en)), .dat (.list ((xsOf zs).map rq)), .dat (.int (xsOf zs).length), .dat (.list (qs.map rq)), .dat (.list (ws.map rq)), .dat (.list ((xsOf zs).map fun x => rq (Nv (xsOf zs) x))), .dat (.str S), .own false (((xsOf zs).map fun x => rq (Nv (xsOf zs) x)) ++ [.none]), .dat (.list B), y10, .un, .un, .un, .un, .un, .un, .un, .un, .un, .un, .un] = some ((xsOf zs).map fun x => rq (evalP qs x), [.own true p2, .dat (.list (zs.map en)), .dat (.list ((xsOf zs).map rq)), .dat (.int (xsOf zs).length), .dat (.list (qs.map rq)), .dat (.list (ws.map rq)), .dat (.list ((xsOf zs).map fun x => rq (Nv (xsOf zs) x))), .dat (.str S), .own false (((xsOf zs).map fun x => rq (Nv (xsOf zs) x)) ++ [.none]), .dat (.list B), y10, .un, .un, .un, .un, .un, .un, .un, .un, .un, .un, .un]) := by
    have e : loopLc [16] (dgN 16) dYes (dCall 2 g__law_worth (dEsC (dVar 4) (dEsC (dVar 16) dEs0))) ((xsOf zs).map rq) [.own true p2, .dat (.list (zs.map en)), .dat (.list ((xsOf zs).map rq)), .dat (.int (xsOf zs).length), .dat (.list (qs.map rq)), .dat (.list (ws.map rq)), .dat (.list ((xsOf zs).map fun x => rq (Nv (xsOf zs) x))), .dat (.str S), .own false (((xsOf zs).map fun x => rq (Nv (xsOf zs) x)) ++ [.none]), .dat (.list B), y10, .un, .un, .un, .un, .un, .un, .un, .un, .un, .un, .un] = some ((xsOf zs).map fun x => rq (evalP qs x), [.own true p2, .dat (.list (zs.map en)), .dat (.list ((xsOf zs).map rq)), .dat (.int (xsOf zs).length), .dat (.list (qs.map rq)), .dat (.list (ws.map rq)), .dat (.list ((xsOf zs).map fun x => rq (Nv (xsOf zs) x))), .dat (.str S), .own false (((xsOf zs).map fun x => rq (Nv (xsOf zs) x)) ++ [.none]), .dat (.list B), y10, .un, .un, .un, .un, .un, .un, .un, .un, .un, .un, .un]) :=
      loopLc_map _ fun x hx => ⟨_, rfl, rfl, by
        have lw := law_worth (h.pl.six x hx) (c := qs) (d := 6) (N := 180) (by decide) (Nat.lt_of_lt_of_le (show 6 * 6 ^ 5 < 2 ^ 100 by decide) (Nat.pow_le_pow_right (by decide) (by decide))) (Nat.lt_of_lt_of_le (show 12 * (180 * 300 ^ 5) < 2 ^ 100 by decide) (Nat.pow_le_pow_right (by decide) (by decide))) (by omega) sq
        simp [lw], rfl⟩
    unfold c__law_right_6
    simp [e, bx]
  obtain ⟨ca, Sa, da16, da17, _, t1⟩ := turn2 h wo1 (.own true p2) (.dat (.list (qs.map rq))) (.dat (.list (ws.map rq))) (.dat (.str S)) (.own false (((xsOf zs).map fun x => rq (Nv (xsOf zs) x)) ++ [.none])) (.dat (.list B)) y10 .un .un .un .un .un .un .un .un .un (.inl ⟨rfl, rfl, rfl, rfl, rfl, rfl⟩)
  obtain ⟨cb, Sb, db16, db17, cf, t2⟩ := turn2 h wo2 (.own true p2) (.dat (.list (qs.map rq))) (.dat (.list (ws.map rq))) (.dat (.str S)) (.own false (((xsOf zs).map fun x => rq (Nv (xsOf zs) x)) ++ [.none])) (.dat (.list B)) y10 .un .un .un (.dat (.list (zs.map (pz (f1))))) (.dat (.str Sa)) (.dat (rq (D (xsOf zs) (f1)))) (.dat (.list (ca.map rq))) (.dat da16) (.dat da17) (.inr ⟨_, _, _, _, _, _, rfl, rfl, rfl, rfl, rfl, rfl⟩)
  have cq : cb = qs := uniq (xsOf zs).length (xsOf zs) cb qs rfl cf.len lq h.pl.nd cf.ok
  subst cq
  have lp : loopFor (dgN 11) b__law_right_2 [.list (ws.map rq), .list ((xsOf zs).map fun x => rq (evalP cb x))] [.own true p2, .dat (.list (zs.map en)), .dat (.list ((xsOf zs).map rq)), .dat (.int (xsOf zs).length), .dat (.list (cb.map rq)), .dat (.list (ws.map rq)), .dat (.list ((xsOf zs).map fun x => rq (Nv (xsOf zs) x))), .dat (.str S), .own false (((xsOf zs).map fun x => rq (Nv (xsOf zs) x)) ++ [.none]), .dat (.list B), y10, .un, .un, .un, .un, .un, .un, .un, .un, .un, .un, .un] = some (.nx, [.own true p2, .dat (.list (zs.map en)), .dat (.list ((xsOf zs).map rq)), .dat (.int (xsOf zs).length), .dat (.list (cb.map rq)), .dat (.list (ws.map rq)), .dat (.list ((xsOf zs).map fun x => rq (Nv (xsOf zs) x))), .dat (.str S), .own false (((xsOf zs).map fun x => rq (Nv (xsOf zs) x)) ++ [.none]), .dat (.list B), y10, .dat (.list ((xsOf zs).map fun x => rq (evalP cb x))), .dat (.list (zs.map (pz (evalP cb)))), .dat (.str Sb), .dat (rq (D (xsOf zs) (evalP cb))), .dat (.list (cb.map rq)), .dat db16, .dat db17, .un, .un, .un, .un]) := by
    rw [eW] at *
    rw [loop_cons (sim_gN ..)]
    show stepK (b__law_right_2 [.own true p2, .dat (.list (zs.map en)), .dat (.list ((xsOf zs).map rq)), .dat (.int (xsOf zs).length), .dat (.list (cb.map rq)), .dat (.list ((xsOf zs).map fun x => rq (f1 x))), .dat (.list ((xsOf zs).map fun x => rq (Nv (xsOf zs) x))), .dat (.str S), .own false (((xsOf zs).map fun x => rq (Nv (xsOf zs) x)) ++ [.none]), .dat (.list B), y10, .dat (.list ((xsOf zs).map fun x => rq (f1 x))), .un, .un, .un, .un, .un, .un, .un, .un, .un, .un]) _ _ _ = _
    rw [t1, stepK_nx, loop_cons (sim_gN ..)]
    show stepK (b__law_right_2 [.own true p2, .dat (.list (zs.map en)), .dat (.list ((xsOf zs).map rq)), .dat (.int (xsOf zs).length), .dat (.list (cb.map rq)), .dat (.list ((xsOf zs).map fun x => rq (f1 x))), .dat (.list ((xsOf zs).map fun x => rq (Nv (xsOf zs) x))), .dat (.str S), .own false (((xsOf zs).map fun x => rq (Nv (xsOf zs) x)) ++ [.none]), .dat (.list B), y10, .dat (.list ((xsOf zs).map fun x => rq (evalP cb x))), .dat (.list (zs.map (pz (f1)))), .dat (.str Sa), .dat (rq (D (xsOf zs) (f1))), .dat (.list (ca.map rq)), .dat da16, .dat da17, .un, .un, .un, .un]) _ _ _ = _
    rw [t2, stepK_nx, loop_nil]
  have fQ : fitw 6 2 (.list (cb.map rq)) = true := fit_lst (by omega) fun q hq => fit_rq ((sq q hq).six.b.mono (by decide))
  obtain ⟨S4, rQ⟩ := repr_l fQ (by omega)
  obtain ⟨z, p3, hp3, okz, sz, e3⟩ := small hp2
  have lwz := law_worth sz.six (c := cb) (d := 6) (N := 180) (by decide) (Nat.lt_of_lt_of_le (show 6 * 6 ^ 5 < 2 ^ 100 by decide) (Nat.pow_le_pow_right (by decide) (by decide))) (Nat.lt_of_lt_of_le (show 12 * (180 * 300 ^ 5) < 2 ^ 100 by decide) (Nat.pow_le_pow_right (by decide) (by decide))) (by omega) sq
  have xc : xsOf (cb.map cn) = cb := by unfold xsOf; rw [List.map_map]; exact List.map_id _
  have paz := power_at okz sz.six (cs := cb.map cn) (fun w hw => by obtain ⟨b, _, rfl⟩ := List.mem_map.mp hw; exact cn_ok b) (by rw [List.length_map]; omega) (by rw [List.length_map]; omega) (d := 6) (N := 180) (by decide) (Nat.lt_of_lt_of_le (show 6 * 6 ^ 6 < 2 ^ 100 by decide) (Nat.pow_le_pow_right (by decide) (by decide))) (Nat.lt_of_lt_of_le (show 6 * (180 * 300 ^ 6) < 2 ^ 100 by decide) (Nat.pow_le_pow_right (by decide) (by decide))) (fun w hw => by obtain ⟨b, hb, rfl⟩ := List.mem_map.mp hw; exact sq b hb) (s := .list ((cb.map cn).map en)) (.inl rfl)
  rw [xc, List.map_map] at paz
  have lpz := law_pair okz
  have fV := fit_rq ((eval_wo (c := cb) (by omega) sq sz.six).b.mono (show 60 ≤ 1500 by decide))
  obtain ⟨S5, rV⟩ : ∃ S : Str, gRepr [rq (evalP cb z.2)] = some (.str S) := repr_t fV (by omega)
  have c8 : c__law_right_8 [.own true p3, .dat (.list (zs.map en)), .dat (.list ((xsOf zs).map rq)), .dat (.int (xsOf zs).length), .dat (.list (cb.map rq)), .dat (.list (ws.map rq)), .dat (.list ((xsOf zs).map fun x => rq (Nv (xsOf zs) x))), .dat (.str S), .own false (((xsOf zs).map fun x => rq (Nv (xsOf zs) x)) ++ [.none]), .dat (.list B), y10, .dat (.list ((xsOf zs).map fun x => rq (evalP cb x))), .dat (.list (zs.map (pz (evalP cb)))), .dat (.str Sb), .dat (rq (D (xsOf zs) (evalP cb))), .dat (.list (cb.map rq)), .dat (en z), .dat db17, .un, .un, .un, .un] = some (cb.map (en ∘ cn), [.own true p3, .dat (.list (zs.map en)), .dat (.list ((xsOf zs).map rq)), .dat (.int (xsOf zs).length), .dat (.list (cb.map rq)), .dat (.list (ws.map rq)), .dat (.list ((xsOf zs).map fun x => rq (Nv (xsOf zs) x))), .dat (.str S), .own false (((xsOf zs).map fun x => rq (Nv (xsOf zs) x)) ++ [.none]), .dat (.list B), y10, .dat (.list ((xsOf zs).map fun x => rq (evalP cb x))), .dat (.list (zs.map (pz (evalP cb)))), .dat (.str Sb), .dat (rq (D (xsOf zs) (evalP cb))), .dat (.list (cb.map rq)), .dat (en z), .dat db17, .un, .un, .un, .un]) := by
    have e : loopLc [21] (dgN 21) dYes (dIf (dB (dOp gEq (dAg (dOp gIx (dPv 21) (dAg (dC (.int 1))))) (dAg (dC (.int 1))))) (dOp gIx (dPv 21) (dAg (dC (.int 0)))) (dVar 21)) (cb.map rq) [.own true p3, .dat (.list (zs.map en)), .dat (.list ((xsOf zs).map rq)), .dat (.int (xsOf zs).length), .dat (.list (cb.map rq)), .dat (.list (ws.map rq)), .dat (.list ((xsOf zs).map fun x => rq (Nv (xsOf zs) x))), .dat (.str S), .own false (((xsOf zs).map fun x => rq (Nv (xsOf zs) x)) ++ [.none]), .dat (.list B), y10, .dat (.list ((xsOf zs).map fun x => rq (evalP cb x))), .dat (.list (zs.map (pz (evalP cb)))), .dat (.str Sb), .dat (rq (D (xsOf zs) (evalP cb))), .dat (.list (cb.map rq)), .dat (en z), .dat db17, .un, .un, .un, .un] = some (cb.map (en ∘ cn), [.own true p3, .dat (.list (zs.map en)), .dat (.list ((xsOf zs).map rq)), .dat (.int (xsOf zs).length), .dat (.list (cb.map rq)), .dat (.list (ws.map rq)), .dat (.list ((xsOf zs).map fun x => rq (Nv (xsOf zs) x))), .dat (.str S), .own false (((xsOf zs).map fun x => rq (Nv (xsOf zs) x)) ++ [.none]), .dat (.list B), y10, .dat (.list ((xsOf zs).map fun x => rq (evalP cb x))), .dat (.list (zs.map (pz (evalP cb)))), .dat (.str Sb), .dat (rq (D (xsOf zs) (evalP cb))), .dat (.list (cb.map rq)), .dat (en z), .dat db17, .un, .un, .un, .un]) :=
      loopLc_map _ fun q hq => ⟨_, rfl, rfl, by
        have i1 : gIx (rq q) (.int 1) = some (.int q.den) := id rfl
        have i0 : gIx (rq q) (.int 0) = some (.int q.num) := id rfl
        by_cases c : q.den = 1
        · have ec : en (cn q) = .int q.num := en_int (decide_eq_true c)
          simp [i1, i0, c, ec]
        · have c' : ¬ (q.den : Int) = 1 := by omega
          have ec : en (cn q) = rq q := en_rq (decide_eq_false c)
          simp [i1, i0, c, c', ec], rfl⟩
    have bq : cb.length ≤ big := len_b (by omega)
    unfold c__law_right_8
    simp [e, bq]
  refine ⟨p3, hp3, ?_⟩
  have hl' : ((zs.map en).length : Int) = ((xsOf zs).length : Int) := by rw [List.length_map]; omega
  have gi : gInt [.int ((xsOf zs).length : Int)] = some (.int ((xsOf zs).length : Int)) := id rfl
  have rgL : ∀ G : En, irgK (some ([.int ((xsOf zs).length : Int)], G)) = some ((List.range (xsOf zs).length).map fun (i : Nat) => .int (i : Int), G) := rng (n := (xsOf zs).length) (by omega)
  have bl : (xsOf zs).length < big := by show _ < 1000000; omega
  clear wo1 wo2 eW hf1 t1 t2 fPl fN fQ fV sq sw cf sz okz
  generalize (xsOf zs).map (fun x => rq (Nv (xsOf zs) x)) = NN at *
  generalize (xsOf zs).map (fun x => rq (evalP cb x)) = WB at *
  generalize (xsOf zs).map rq = XX at *
  generalize zs.map en = ZE at *
  generalize ws.map rq = WW at *
  generalize cb.map rq = CB at *
  unfold g__law_right f__law_right
  rw [sim_runL]
  simp [c0, hl', d1, d2, ln, rS, dn1, dn2, pk1, rN, bN, bl, c3, c4, nB, -irgK_0, rgL, l0, c6, lp, rQ, e3, lwz, lpz, c8, paz, rV]
end
end Q13
namespace Q13
open PySem PySem.Spec PyProof.Rows L2 Jd
def teL : En → Option (PyData × En) := dCallL 1 g__law_right 1 (dEsC (dCallL 1 g__law_places 1 (dEsC (dOp gAdd (dAg (dC (.int 1))) (dAg (dCallL 1 g__law_draw 1 (dEsC (dC (.int 6)) (dEs0))))) (dEs0))) (dEs0))
theorem turnL {p : List PyData} (hp : Pot p) (A : Sl) (d : PyData) : ∃ p', Pot p' ∧ teL [A, .own false p, .dat d] = some (.bool true, [A, .own false p', .dat d]) := by
  obtain ⟨v, p1, hp1, h0, h1, e1⟩ := draw hp (m := 6) (by omega) (by omega)
  obtain ⟨n, rfl⟩ : ∃ n : Nat, v = (n : Int) := ⟨v.toNat, by omega⟩
  obtain ⟨zs, p2, hp2, hz, lz, e2⟩ := places hp1 (n := 1 + n) (by omega) (by omega)
  obtain ⟨p3, hp3, e3⟩ := right hz hp2
  have c : (((1 + n : Nat)) : Int) = 1 + (n : Int) := by omega
  rw [c] at e2
  refine ⟨p3, hp3, ?_⟩
  unfold teL
  simp [e1, e2, e3]
theorem rights : ∀ (ds : List PyData) (A : Sl) (p : List PyData), Pot p → ∃ p', Pot p' ∧ loopLc [2] (dgN 2) dYes teL ds [A, .own false p, .un] = some (ds.map fun _ => .bool true, [A, .own false p', .un])
  | [], A, p, hp => ⟨p, hp, rfl⟩
  | d :: ds, A, p, hp => by
    obtain ⟨p1, hp1, e1⟩ := turnL hp A d
    obtain ⟨p2, hp2, e2⟩ := rights ds A p1 hp1
    refine ⟨p2, hp2, ?_⟩
    show ((teL [A, .own false p, .dat d]).bind fun q => (loopLc [2] (dgN 2) dYes teL ds (wipeG q.2 [2])).bind fun z => some (q.1 :: z.1, z.2)) = _
    rw [e1]
    show ((loopLc [2] (dgN 2) dYes teL ds [A, .own false p1, .un]).bind fun z => some (PyData.bool true :: z.1, z.2)) = _
    rw [e2]
    rfl
theorem law_true (ns : List Int) (hl : ns.length ≤ 63) : g_law [.list (ns.map .int)] = some (.dat (.bool true)) := by
  obtain ⟨p, hp, e⟩ := pot_of ns
  have rg : ∀ G : En, irgK (some ([.int 4], G)) = some ((List.range 4).map fun (j : Nat) => PyData.int (j : Int), G) := rng (n := 4) (by omega)
  obtain ⟨p', hp', e2⟩ := rights ((List.range 4).map fun (j : Nat) => PyData.int (j : Int)) (.dat (.list (ns.map .int))) p hp
  have c : c_law_0 [.dat (.list (ns.map .int)), .own false p, .un] = some ((List.range 4).map fun _ => .bool true, [.dat (.list (ns.map .int)), .own false p', .un]) := by
    have b6 : (4 : Nat) ≤ big := by decide
    have e3 := e2
    unfold teL at e3
    unfold c_law_0
    simp [-irgK_0, rg, e3, b6]
  have al := all_true (List.range 4)
  unfold g_law f_law
  rw [sim_runD]
  simp [slots, e, c, al]
end Q13
namespace Q13
open PySem PySem.Spec PyProof.Rows L2 Jd
theorem txt {w : World} {K : PySem.W.Frag} {h : Heap} {mg : Str → Option Value} (X : K.In h) (G : h.Ns mainGlobals mg) (c : He.SaysX fa fn [] [] ex w h K) : Txt K mg := by
  have m := c.more
  unfold ex at m
  simp only [Bool.and_eq_true] at m
  obtain ⟨m0, m1, m2, m3⟩ := m
  exact ⟨He.free_ok X G (c.t.d.fact 51 (f := .free "abs") rfl),
    He.free_ok X G (c.t.d.fact 52 (f := .free "all") rfl),
    He.free_ok X G (c.t.d.fact 53 (f := .free "bool") rfl),
    He.free_ok X G (c.t.d.fact 54 (f := .free "enumerate") rfl),
    He.free_ok X G (c.t.d.fact 55 (f := .free "int") rfl),
    He.free_ok X G (c.t.d.fact 56 (f := .free "isinstance") rfl),
    He.free_ok X G (c.t.d.fact 57 (f := .free "len") rfl),
    He.free_ok X G (c.t.d.fact 58 (f := .free "list") rfl),
    He.free_ok X G (c.t.d.fact 59 (f := .free "max") rfl),
    He.free_ok X G (c.t.d.fact 60 (f := .free "range") rfl),
    He.free_ok X G (c.t.d.fact 61 (f := .free "repr") rfl),
    He.free_ok X G (c.t.d.fact 62 (f := .free "sum") rfl),
    He.free_ok X G (c.t.d.fact 63 (f := .free "tuple") rfl),
    He.free_ok X G (c.t.d.fact 64 (f := .free "zip") rfl),
    conD_ok X G m0,
    conD_ok X G m1,
    conD_ok X G m2,
    bltD_ok X G m3,
    (c.t.d.def_ 0 (d := d_is_list) rfl).elim fun fd F => ⟨_, fd, He.glo_ok X G (c.t.d.fact 0 (f := .glo "is_list") rfl), F⟩,
    (c.t.d.def_ 1 (d := d_is_integer) rfl).elim fun fd F => ⟨_, fd, He.glo_ok X G (c.t.d.fact 1 (f := .glo "is_integer") rfl), F⟩,
    (c.t.d.def_ 2 (d := d_is_ratio) rfl).elim fun fd F => ⟨_, fd, He.glo_ok X G (c.t.d.fact 2 (f := .glo "is_ratio") rfl), F⟩,
    (c.t.d.def_ 3 (d := d_is_number) rfl).elim fun fd F => ⟨_, fd, He.glo_ok X G (c.t.d.fact 3 (f := .glo "is_number") rfl), F⟩,
    (c.t.d.def_ 4 (d := d_made) rfl).elim fun fd F => ⟨_, fd, He.glo_ok X G (c.t.d.fact 4 (f := .glo "made") rfl), F⟩,
    (c.t.d.def_ 5 (d := d_pair_of) rfl).elim fun fd F => ⟨_, fd, He.glo_ok X G (c.t.d.fact 5 (f := .glo "pair_of") rfl), F⟩,
    (c.t.d.def_ 6 (d := d_pairs_of) rfl).elim fun fd F => ⟨_, fd, He.glo_ok X G (c.t.d.fact 6 (f := .glo "pairs_of") rfl), F⟩,
    (c.t.d.def_ 7 (d := d_common) rfl).elim fun fd F => ⟨_, fd, He.glo_ok X G (c.t.d.fact 7 (f := .glo "common") rfl), F⟩,
    (c.t.d.def_ 8 (d := d_r_plus) rfl).elim fun fd F => ⟨_, fd, He.glo_ok X G (c.t.d.fact 8 (f := .glo "r_plus") rfl), F⟩,
    (c.t.d.def_ 9 (d := d_r_minus) rfl).elim fun fd F => ⟨_, fd, He.glo_ok X G (c.t.d.fact 9 (f := .glo "r_minus") rfl), F⟩,
    (c.t.d.def_ 10 (d := d_r_times) rfl).elim fun fd F => ⟨_, fd, He.glo_ok X G (c.t.d.fact 10 (f := .glo "r_times") rfl), F⟩,
    (c.t.d.def_ 11 (d := d_r_over) rfl).elim fun fd F => ⟨_, fd, He.glo_ok X G (c.t.d.fact 11 (f := .glo "r_over") rfl), F⟩,
    (c.t.d.def_ 12 (d := d_r_less) rfl).elim fun fd F => ⟨_, fd, He.glo_ok X G (c.t.d.fact 12 (f := .glo "r_less") rfl), F⟩,
    (c.t.d.def_ 13 (d := d_r_total) rfl).elim fun fd F => ⟨_, fd, He.glo_ok X G (c.t.d.fact 13 (f := .glo "r_total") rfl), F⟩,
    (c.t.d.def_ 14 (d := d_r_dot) rfl).elim fun fd F => ⟨_, fd, He.glo_ok X G (c.t.d.fact 14 (f := .glo "r_dot") rfl), F⟩,
    (c.t.d.def_ 15 (d := d_line_is_right) rfl).elim fun fd F => ⟨_, fd, He.glo_ok X G (c.t.d.fact 15 (f := .glo "line_is_right") rfl), F⟩,
    (c.t.d.def_ 16 (d := d_numbers_by) rfl).elim fun fd F => ⟨_, fd, He.glo_ok X G (c.t.d.fact 16 (f := .glo "numbers_by") rfl), F⟩,
    (c.t.d.def_ 17 (d := d_difference_by) rfl).elim fun fd F => ⟨_, fd, He.glo_ok X G (c.t.d.fact 17 (f := .glo "difference_by") rfl), F⟩,
    (c.t.d.def_ 18 (d := d_longer_by) rfl).elim fun fd F => ⟨_, fd, He.glo_ok X G (c.t.d.fact 18 (f := .glo "longer_by") rfl), F⟩,
    (c.t.d.def_ 19 (d := d_law_by) rfl).elim fun fd F => ⟨_, fd, He.glo_ok X G (c.t.d.fact 19 (f := .glo "law_by") rfl), F⟩,
    (c.t.d.def_ 20 (d := d_power_by) rfl).elim fun fd F => ⟨_, fd, He.glo_ok X G (c.t.d.fact 20 (f := .glo "power_by") rfl), F⟩,
    (c.t.d.def_ 21 (d := d_point_is_right) rfl).elim fun fd F => ⟨_, fd, He.glo_ok X G (c.t.d.fact 21 (f := .glo "point_is_right") rfl), F⟩,
    (c.t.d.def_ 22 (d := d_do_numbers_rise) rfl).elim fun fd F => ⟨_, fd, He.glo_ok X G (c.t.d.fact 22 (f := .glo "do_numbers_rise") rfl), F⟩,
    (c.t.d.def_ 23 (d := d_points_are_right) rfl).elim fun fd F => ⟨_, fd, He.glo_ok X G (c.t.d.fact 23 (f := .glo "points_are_right") rfl), F⟩,
    (c.t.d.def_ 24 (d := d_points_of) rfl).elim fun fd F => ⟨_, fd, He.glo_ok X G (c.t.d.fact 24 (f := .glo "points_of") rfl), F⟩,
    (c.t.d.def_ 25 (d := d_spot_of) rfl).elim fun fd F => ⟨_, fd, He.glo_ok X G (c.t.d.fact 25 (f := .glo "spot_of") rfl), F⟩,
    (c.t.d.def_ 26 (d := d_difference) rfl).elim fun fd F => ⟨_, fd, He.glo_ok X G (c.t.d.fact 26 (f := .glo "difference") rfl), F⟩,
    (c.t.d.def_ 27 (d := d_difference_numbers) rfl).elim fun fd F => ⟨_, fd, He.glo_ok X G (c.t.d.fact 27 (f := .glo "difference_numbers") rfl), F⟩,
    (c.t.d.def_ 28 (d := d_power_law) rfl).elim fun fd F => ⟨_, fd, He.glo_ok X G (c.t.d.fact 28 (f := .glo "power_law") rfl), F⟩,
    (c.t.d.def_ 29 (d := d_power_at) rfl).elim fun fd F => ⟨_, fd, He.glo_ok X G (c.t.d.fact 29 (f := .glo "power_at") rfl), F⟩,
    (c.t.d.def_ 30 (d := d__law_pot) rfl).elim fun fd F => ⟨_, fd, He.glo_ok X G (c.t.d.fact 30 (f := .glo "_law_pot") rfl), F⟩,
    (c.t.d.def_ 31 (d := d__law_draw) rfl).elim fun fd F => ⟨_, fd, He.glo_ok X G (c.t.d.fact 31 (f := .glo "_law_draw") rfl), F⟩,
    (c.t.d.def_ 32 (d := d__law_pick) rfl).elim fun fd F => ⟨_, fd, He.glo_ok X G (c.t.d.fact 32 (f := .glo "_law_pick") rfl), F⟩,
    (c.t.d.def_ 33 (d := d__law_frac) rfl).elim fun fd F => ⟨_, fd, He.glo_ok X G (c.t.d.fact 33 (f := .glo "_law_frac") rfl), F⟩,
    (c.t.d.def_ 34 (d := d__law_plus) rfl).elim fun fd F => ⟨_, fd, He.glo_ok X G (c.t.d.fact 34 (f := .glo "_law_plus") rfl), F⟩,
    (c.t.d.def_ 35 (d := d__law_minus) rfl).elim fun fd F => ⟨_, fd, He.glo_ok X G (c.t.d.fact 35 (f := .glo "_law_minus") rfl), F⟩,
    (c.t.d.def_ 36 (d := d__law_times) rfl).elim fun fd F => ⟨_, fd, He.glo_ok X G (c.t.d.fact 36 (f := .glo "_law_times") rfl), F⟩,
    (c.t.d.def_ 37 (d := d__law_by) rfl).elim fun fd F => ⟨_, fd, He.glo_ok X G (c.t.d.fact 37 (f := .glo "_law_by") rfl), F⟩,
    (c.t.d.def_ 38 (d := d__law_below) rfl).elim fun fd F => ⟨_, fd, He.glo_ok X G (c.t.d.fact 38 (f := .glo "_law_below") rfl), F⟩,
    (c.t.d.def_ 39 (d := d__law_dot) rfl).elim fun fd F => ⟨_, fd, He.glo_ok X G (c.t.d.fact 39 (f := .glo "_law_dot") rfl), F⟩,
    (c.t.d.def_ 40 (d := d__law_squares) rfl).elim fun fd F => ⟨_, fd, He.glo_ok X G (c.t.d.fact 40 (f := .glo "_law_squares") rfl), F⟩,
    (c.t.d.def_ 41 (d := d__law_pair) rfl).elim fun fd F => ⟨_, fd, He.glo_ok X G (c.t.d.fact 41 (f := .glo "_law_pair") rfl), F⟩,
    (c.t.d.def_ 42 (d := d__law_small) rfl).elim fun fd F => ⟨_, fd, He.glo_ok X G (c.t.d.fact 42 (f := .glo "_law_small") rfl), F⟩,
    (c.t.d.def_ 43 (d := d__law_places) rfl).elim fun fd F => ⟨_, fd, He.glo_ok X G (c.t.d.fact 43 (f := .glo "_law_places") rfl), F⟩,
    (c.t.d.def_ 44 (d := d__law_total) rfl).elim fun fd F => ⟨_, fd, He.glo_ok X G (c.t.d.fact 44 (f := .glo "_law_total") rfl), F⟩,
    (c.t.d.def_ 45 (d := d__law_difference) rfl).elim fun fd F => ⟨_, fd, He.glo_ok X G (c.t.d.fact 45 (f := .glo "_law_difference") rfl), F⟩,
    (c.t.d.def_ 46 (d := d__law_numbers) rfl).elim fun fd F => ⟨_, fd, He.glo_ok X G (c.t.d.fact 46 (f := .glo "_law_numbers") rfl), F⟩,
    (c.t.d.def_ 47 (d := d__law_power) rfl).elim fun fd F => ⟨_, fd, He.glo_ok X G (c.t.d.fact 47 (f := .glo "_law_power") rfl), F⟩,
    (c.t.d.def_ 48 (d := d__law_worth) rfl).elim fun fd F => ⟨_, fd, He.glo_ok X G (c.t.d.fact 48 (f := .glo "_law_worth") rfl), F⟩,
    (c.t.d.def_ 49 (d := d__law_right) rfl).elim fun fd F => ⟨_, fd, He.glo_ok X G (c.t.d.fact 49 (f := .glo "_law_right") rfl), F⟩,
    (c.t.d.def_ 50 (d := d_law) rfl).elim fun fd F => ⟨_, fd, He.glo_ok X G (c.t.d.fact 50 (f := .glo "law") rfl), F⟩⟩
end Q13
open PySem PySem.W PySem.Calls PyProof.Rows
theorem PySem.Challenge.cw_throughslots_k13_whole_differences_and_p_holds : PySem.Challenge.rw_throughslots_k13_whole_differences_and_p.Holds := by
  w_on; o_law
  refine HandSHeadRun.head_imp (r := OpenLaw.row PySem.Challenge.rw_throughslots_k13_whole_differences_and_p) (q := view (OpenLaw.row PySem.Challenge.rw_throughslots_k13_whole_differences_and_p).prog [0, 64]) (H := Q13.hk) (ob := Q13.ob) (M := 20000) (loose := Q13.loose) (d := HandSHeadRun.topDef (OpenLaw.row PySem.Challenge.rw_throughslots_k13_whole_differences_and_p).prog 64) (kwd := []) Q13.ob_eq
    Q13.run (by kernel_rfl) (by kernel_rfl) (by kernel_rfl) (by rfl) (by first | assumption | decide +kernel) (by decide +kernel) ⟨rfl, rfl, rfl, rfl, rfl, by decide +kernel⟩ ?hw ?hc
  case hw => w_witness2
  case hc =>
    refine Jd.walk_G (l := PySem.Challenge.rw_throughslots_k13_whole_differences_and_p) (n := 63) (k := 9) (x := "script") (g := fun _ => Q13.g_law) rfl (by decide) (by kernel_rfl) ⟨rfl, by decide, by decide⟩ ?F (fun _ ns hl => Q13.law_true ns hl)
    intro w mg fa h Y G hmg0
    obtain ⟨K, KX, c⟩ := Y
    have hmg : mg ("law" : PySem.Str) = some (.ref fa) := by
      have e : (HandSHeadRun.topDef (OpenLaw.row PySem.Challenge.rw_throughslots_k13_whole_differences_and_p).prog 64).name = ("law" : PySem.Str) := by kernel_rfl
      rw [← e]
      exact hmg0
    have T := Q13.txt KX G c
    obtain ⟨f0, fd, e0, F0⟩ := T.a_law
    have e1 := hmg.symm.trans e0
    cases e1
    have b := L2.FunD.bindsA (ps := ["script"]) F0 fun _ _ _ _ _ _ us hl => match us, hl with | [_], _ => rfl
    refine ⟨K, fd, KX, fun s v => b s [v] rfl, fun base hb hn => ?_⟩
    obtain ⟨f1, fd1, h1, F1, B1, G1⟩ := (Q13.ok_law (P := PySem.Challenge.rw_throughslots_k13_whole_differences_and_p.prog) (w := w) (base := base) T).ex
    have e2 := hmg.symm.trans h1
    cases e2
    have e3 := Jd.fd_one F0 F1
    subst e3
    exact G1
