import PyProof.Rows.All
import Wide.All
import OpenK.AllK
import Wide.FinOn
import HandS.ForMost
import HandS.ForExc
import HandS.Gcd
import HandS.IsInst
import HandS.Style
import HandS.Rev
import HandS.TupAny
import HandS.TupMul
import HandS.Star
import HandS.Wide
import HandS.TupLe
import HandS.Walk
import HandS.Codes
import PySem.Challenge.RW_pulledrooms_k19_whole_signs_or_a_turning
import KE.GoesMore
import KE.GoesEnum
import HandS.FStrTup
import HandS.ExcOwn
import HandS.WordsExc
import HandS.ExcIs
import HandS.ExcValue
import HandS.Lambda
import KE.KStateDown
import HandS.Head0
import HandS.Head1
import HandS.Head2
import HandS.Head3
import HandS.HeadEnd
import HandS.HeadHook1
import HandS.HeadHook2
import HandS.HeadHook3
import HandS.HeadHook4
import HandS.EndBits
import HandS.EndTab
/-! Signs that are whole, or a walk that turns: the law of the pulled rooms, from the def's texts to the row. -/
set_option Elab.async false
set_option linter.all false
set_option maxRecDepth 100000
/-! The text by its places: each def, its slots, its scope. -/
namespace K19
open PySem L2
def topS (i : Nat) : Stmt := PySem.Challenge.pw_pulledrooms_k19_whole_signs_or_a_turning.main.body.getD i (.Pass ⟨0, 0, 0, 0⟩)
abbrev s_p_is_number : Stmt := topS 2
abbrev n_p_is_number : List Str := ["value"]
abbrev a_p_is_number : List Str := ["value"]
theorem sc_p_is_number : FnScope n_p_is_number a_p_is_number (defScope s_p_is_number) := ⟨rfl, rfl, rfl, by decide +kernel, rfl, by decide +kernel, by decide +kernel⟩
abbrev s_p_is_below : Stmt := topS 3
abbrev n_p_is_below : List Str := ["value", "size"]
abbrev a_p_is_below : List Str := ["value", "size"]
theorem sc_p_is_below : FnScope n_p_is_below a_p_is_below (defScope s_p_is_below) := ⟨rfl, rfl, rfl, by decide +kernel, rfl, by decide +kernel, by decide +kernel⟩
abbrev s_p_is_door : Stmt := topS 14
abbrev n_p_is_door : List Str := ["value", "rooms", "near", "first", "far", "second", "item"]
abbrev a_p_is_door : List Str := ["value", "rooms"]
theorem sc_p_is_door : FnScope n_p_is_door a_p_is_door (defScope s_p_is_door) := ⟨rfl, rfl, rfl, by decide +kernel, rfl, by decide +kernel, by decide +kernel⟩
abbrev s_p_are_doors : Stmt := topS 15
abbrev n_p_are_doors : List Str := ["value", "rooms", "door"]
abbrev a_p_are_doors : List Str := ["value", "rooms"]
theorem sc_p_are_doors : FnScope n_p_are_doors a_p_are_doors (defScope s_p_are_doors) := ⟨rfl, rfl, rfl, by decide +kernel, rfl, by decide +kernel, by decide +kernel⟩
abbrev s_p_joined_rooms : Stmt := topS 16
abbrev n_p_joined_rooms : List Str := ["doors", "known", "line", "here", "near", "first", "far", "second", "one", "other"]
abbrev a_p_joined_rooms : List Str := ["doors"]
theorem sc_p_joined_rooms : FnScope n_p_joined_rooms a_p_joined_rooms (defScope s_p_joined_rooms) := ⟨rfl, rfl, rfl, by decide +kernel, rfl, by decide +kernel, by decide +kernel⟩
abbrev s_house_init : Stmt := inClass (topS 17) 0
abbrev n_house_init : List Str := ["self", "rooms", "doors", "known", "room"]
abbrev a_house_init : List Str := ["self", "rooms", "doors"]
theorem sc_house_init : FnScope n_house_init a_house_init (defScope s_house_init) := ⟨rfl, rfl, rfl, by decide +kernel, rfl, by decide +kernel, by decide +kernel⟩
abbrev s_p_need_house : Stmt := topS 18
abbrev n_p_need_house : List Str := ["house"]
abbrev a_p_need_house : List Str := ["house"]
theorem sc_p_need_house : FnScope n_p_need_house a_p_need_house (defScope s_p_need_house) := ⟨rfl, rfl, rfl, by decide +kernel, rfl, by decide +kernel, by decide +kernel⟩
abbrev s_p_gate_of : Stmt := topS 19
abbrev n_p_gate_of : List Str := ["house", "step", "near", "first", "far", "second"]
abbrev a_p_gate_of : List Str := ["house", "step"]
theorem sc_p_gate_of : FnScope n_p_gate_of a_p_gate_of (defScope s_p_gate_of) := ⟨rfl, rfl, rfl, by decide +kernel, rfl, by decide +kernel, by decide +kernel⟩
abbrev s_p_lowest : Stmt := topS 21
abbrev n_p_lowest : List Str := ["top", "bottom", "common"]
abbrev a_p_lowest : List Str := ["top", "bottom"]
theorem sc_p_lowest : FnScope n_p_lowest a_p_lowest (defScope s_p_lowest) := ⟨rfl, rfl, rfl, by decide +kernel, rfl, by decide +kernel, by decide +kernel⟩
abbrev s_p_ratio_over : Stmt := topS 22
abbrev n_p_ratio_over : List Str := ["house", "passes", "top", "bottom", "step", "gate"]
abbrev a_p_ratio_over : List Str := ["house", "passes"]
theorem sc_p_ratio_over : FnScope n_p_ratio_over a_p_ratio_over (defScope s_p_ratio_over) := ⟨rfl, rfl, rfl, by decide +kernel, rfl, by decide +kernel, by decide +kernel⟩
abbrev s_p_bare_walk : Stmt := topS 23
abbrev n_p_bare_walk : List Str := ["room", "passes"]
abbrev a_p_bare_walk : List Str := ["room", "passes"]
theorem sc_p_bare_walk : FnScope n_p_bare_walk a_p_bare_walk (defScope s_p_bare_walk) := ⟨rfl, rfl, rfl, by decide +kernel, rfl, by decide +kernel, by decide +kernel⟩
abbrev s_p_ways_out : Stmt := topS 24
abbrev n_p_ways_out : List Str := ["house", "found", "line", "here", "step", "gate", "at", "side"]
abbrev a_p_ways_out : List Str := ["house"]
theorem sc_p_ways_out : FnScope n_p_ways_out a_p_ways_out (defScope s_p_ways_out) := ⟨rfl, rfl, rfl, by decide +kernel, rfl, by decide +kernel, by decide +kernel⟩
abbrev s_p_turned : Stmt := topS 25
abbrev n_p_turned : List Str := ["passes", "at", "side"]
abbrev a_p_turned : List Str := ["passes"]
theorem sc_p_turned : FnScope n_p_turned a_p_turned (defScope s_p_turned) := ⟨rfl, rfl, rfl, by decide +kernel, rfl, by decide +kernel, by decide +kernel⟩
abbrev s_p_rounds_of : Stmt := topS 26
abbrev n_p_rounds_of : List Str := ["house", "ways", "found", "at", "door"]
abbrev a_p_rounds_of : List Str := ["house"]
theorem sc_p_rounds_of : FnScope n_p_rounds_of a_p_rounds_of (defScope s_p_rounds_of) := ⟨rfl, rfl, rfl, by decide +kernel, rfl, by decide +kernel, by decide +kernel⟩
abbrev s_p_signs_right : Stmt := topS 27
abbrev n_p_signs_right : List Str := ["house", "thing", "item", "near", "first", "far", "second"]
abbrev a_p_signs_right : List Str := ["house", "thing"]
theorem sc_p_signs_right : FnScope n_p_signs_right a_p_signs_right (defScope s_p_signs_right) := ⟨rfl, rfl, rfl, by decide +kernel, rfl, by decide +kernel, by decide +kernel⟩
abbrev s_p_told_signs : Stmt := topS 28
abbrev n_p_told_signs : List Str := ["house", "ways", "told", "room"]
abbrev a_p_told_signs : List Str := ["house"]
theorem sc_p_told_signs : FnScope n_p_told_signs a_p_told_signs (defScope s_p_told_signs) := ⟨rfl, rfl, rfl, by decide +kernel, rfl, by decide +kernel, by decide +kernel⟩
abbrev s_p_are_signs : Stmt := topS 29
abbrev n_p_are_signs : List Str := ["house", "thing"]
abbrev a_p_are_signs : List Str := ["house", "thing"]
theorem sc_p_are_signs : FnScope n_p_are_signs a_p_are_signs (defScope s_p_are_signs) := ⟨rfl, rfl, rfl, by decide +kernel, rfl, by decide +kernel, by decide +kernel⟩
abbrev s_p_signs_of : Stmt := topS 30
abbrev n_p_signs_of : List Str := ["house"]
abbrev a_p_signs_of : List Str := ["house"]
theorem sc_p_signs_of : FnScope n_p_signs_of a_p_signs_of (defScope s_p_signs_of) := ⟨rfl, rfl, rfl, by decide +kernel, rfl, by decide +kernel, by decide +kernel⟩
abbrev s_p_turning_walk : Stmt := topS 31
abbrev n_p_turning_walk : List Str := ["house", "found", "walk"]
abbrev a_p_turning_walk : List Str := ["house"]
theorem sc_p_turning_walk : FnScope n_p_turning_walk a_p_turning_walk (defScope s_p_turning_walk) := ⟨rfl, rfl, rfl, by decide +kernel, rfl, by decide +kernel, by decide +kernel⟩
abbrev s_begun : Stmt := topS 33
abbrev n_begun : List Str := ["_law_script", "_law_great", "_law_cell"]
abbrev a_begun : List Str := ["_law_script"]
theorem sc_begun : FnScope n_begun a_begun (defScope s_begun) := ⟨rfl, rfl, rfl, by decide +kernel, rfl, by decide +kernel, by decide +kernel⟩
abbrev s_blended : Stmt := topS 34
abbrev n_blended : List Str := ["_law_state", "_law_turn", "_law_found", "_law_prime", "_law_blend", "_law_cell"]
abbrev a_blended : List Str := ["_law_state"]
theorem sc_blended : FnScope n_blended a_blended (defScope s_blended) := ⟨rfl, rfl, rfl, by decide +kernel, rfl, by decide +kernel, by decide +kernel⟩
abbrev s_draw : Stmt := topS 35
abbrev n_draw : List Str := ["_law_state", "_law_size_here", "_law_found"]
abbrev a_draw : List Str := ["_law_state", "_law_size_here"]
theorem sc_draw : FnScope n_draw a_draw (defScope s_draw) := ⟨rfl, rfl, rfl, by decide +kernel, rfl, by decide +kernel, by decide +kernel⟩
abbrev s_pick : Stmt := topS 36
abbrev n_pick : List Str := ["_law_state", "_law_several"]
abbrev a_pick : List Str := ["_law_state", "_law_several"]
theorem sc_pick : FnScope n_pick a_pick (defScope s_pick) := ⟨rfl, rfl, rfl, by decide +kernel, rfl, by decide +kernel, by decide +kernel⟩
abbrev s_mixed : Stmt := topS 37
abbrev n_mixed : List Str := ["_law_state", "_law_several", "_law_left", "_law_found"]
abbrev a_mixed : List Str := ["_law_state", "_law_several"]
theorem sc_mixed : FnScope n_mixed a_mixed (defScope s_mixed) := ⟨rfl, rfl, rfl, by decide +kernel, rfl, by decide +kernel, by decide +kernel⟩
abbrev s_caught : Stmt := topS 38
abbrev n_caught : List Str := ["_law_work", "_law_caught_here", "error"]
abbrev a_caught : List Str := ["_law_work"]
theorem sc_caught : FnScope n_caught a_caught (defScope s_caught) := ⟨rfl, rfl, rfl, by decide +kernel, rfl, by decide +kernel, by decide +kernel⟩
abbrev s_is_truth : Stmt := topS 39
abbrev n_is_truth : List Str := ["_law_found", "_law_due"]
abbrev a_is_truth : List Str := ["_law_found", "_law_due"]
theorem sc_is_truth : FnScope n_is_truth a_is_truth (defScope s_is_truth) := ⟨rfl, rfl, rfl, by decide +kernel, rfl, by decide +kernel, by decide +kernel⟩
abbrev s_is_whole : Stmt := topS 40
abbrev n_is_whole : List Str := ["_law_item"]
abbrev a_is_whole : List Str := ["_law_item"]
theorem sc_is_whole : FnScope n_is_whole a_is_whole (defScope s_is_whole) := ⟨rfl, rfl, rfl, by decide +kernel, rfl, by decide +kernel, by decide +kernel⟩
abbrev s_common : Stmt := topS 41
abbrev n_common : List Str := ["_law_one", "_law_other", "_law_first", "_law_second"]
abbrev a_common : List Str := ["_law_one", "_law_other"]
theorem sc_common : FnScope n_common a_common (defScope s_common) := ⟨rfl, rfl, rfl, by decide +kernel, rfl, by decide +kernel, by decide +kernel⟩
abbrev s_multiple : Stmt := topS 42
abbrev n_multiple : List Str := ["_law_several", "_law_found", "_law_item"]
abbrev a_multiple : List Str := ["_law_several"]
theorem sc_multiple : FnScope n_multiple a_multiple (defScope s_multiple) := ⟨rfl, rfl, rfl, by decide +kernel, rfl, by decide +kernel, by decide +kernel⟩
abbrev s_size : Stmt := topS 43
abbrev n_size : List Str := ["_law_state", "_law_size_here"]
abbrev a_size : List Str := ["_law_state"]
theorem sc_size : FnScope n_size a_size (defScope s_size) := ⟨rfl, rfl, rfl, by decide +kernel, rfl, by decide +kernel, by decide +kernel⟩
abbrev s_doors : Stmt := topS 44
abbrev n_doors : List Str := ["_law_state", "_law_rooms_here", "_law_more", "_law_found", "_law_room_here", "_law_turn", "_law_one", "_law_other", "_law_item"]
abbrev a_doors : List Str := ["_law_state", "_law_rooms_here", "_law_more"]
theorem sc_doors : FnScope n_doors a_doors (defScope s_doors) := ⟨rfl, rfl, rfl, by decide +kernel, rfl, by decide +kernel, by decide +kernel⟩
abbrev s_gate : Stmt := topS 45
abbrev n_gate : List Str := ["_law_doors_here", "_law_step", "_law_near", "_law_first", "_law_far", "_law_second"]
abbrev a_gate : List Str := ["_law_doors_here", "_law_step"]
theorem sc_gate : FnScope n_gate a_gate (defScope s_gate) := ⟨rfl, rfl, rfl, by decide +kernel, rfl, by decide +kernel, by decide +kernel⟩
abbrev s_steps : Stmt := topS 46
abbrev n_steps : List Str := ["_law_doors_here", "_law_room_here", "_law_some", "_law_spot", "_law_turn", "_law_step"]
abbrev a_steps : List Str := ["_law_doors_here", "_law_room_here"]
theorem sc_steps : FnScope n_steps a_steps (defScope s_steps) := ⟨rfl, rfl, rfl, by decide +kernel, rfl, by decide +kernel, by decide +kernel⟩
abbrev s_sides : Stmt := topS 47
abbrev n_sides : List Str := ["_law_many", "_law_found", "_law_spot"]
abbrev a_sides : List Str := ["_law_many"]
theorem sc_sides : FnScope n_sides a_sides (defScope s_sides) := ⟨rfl, rfl, rfl, by decide +kernel, rfl, by decide +kernel, by decide +kernel⟩
abbrev s_end : Stmt := topS 48
abbrev n_end : List Str := ["_law_doors_here", "_law_walk_here"]
abbrev a_end : List Str := ["_law_doors_here", "_law_walk_here"]
theorem sc_end : FnScope n_end a_end (defScope s_end) := ⟨rfl, rfl, rfl, by decide +kernel, rfl, by decide +kernel, by decide +kernel⟩
abbrev s_way : Stmt := topS 49
abbrev n_way : List Str := ["_law_doors_here", "_law_start", "_law_goal", "_law_known", "_law_queue", "_law_turn", "_law_step", "_law_there"]
abbrev a_way : List Str := ["_law_doors_here", "_law_start", "_law_goal"]
theorem sc_way : FnScope n_way a_way (defScope s_way) := ⟨rfl, rfl, rfl, by decide +kernel, rfl, by decide +kernel, by decide +kernel⟩
abbrev s_is_walk : Stmt := topS 50
abbrev n_is_walk : List Str := ["_law_doors_here", "_law_rooms_here", "_law_thing", "_law_here", "_law_step", "_law_item"]
abbrev a_is_walk : List Str := ["_law_doors_here", "_law_rooms_here", "_law_thing"]
theorem sc_is_walk : FnScope n_is_walk a_is_walk (defScope s_is_walk) := ⟨rfl, rfl, rfl, by decide +kernel, rfl, by decide +kernel, by decide +kernel⟩
abbrev s_house : Stmt := topS 51
abbrev n_house : List Str := ["_law_state", "_law_most", "_law_more", "_law_rooms_here"]
abbrev a_house : List Str := ["_law_state", "_law_most", "_law_more"]
theorem sc_house : FnScope n_house a_house (defScope s_house) := ⟨rfl, rfl, rfl, by decide +kernel, rfl, by decide +kernel, by decide +kernel⟩
abbrev s_fitting_doors : Stmt := topS 52
abbrev n_fitting_doors : List Str := ["_law_state", "_law_rooms_here", "_law_more", "_law_lengths_here", "_law_pairs_here", "_law_turn", "_law_found", "_law_near", "_law_far", "_law_whole_here", "_law_first", "_law_second", "_law_room_here"]
abbrev a_fitting_doors : List Str := ["_law_state", "_law_rooms_here", "_law_more"]
theorem sc_fitting_doors : FnScope n_fitting_doors a_fitting_doors (defScope s_fitting_doors) := ⟨rfl, rfl, rfl, by decide +kernel, rfl, by decide +kernel, by decide +kernel⟩
abbrev s_any_house : Stmt := topS 53
abbrev n_any_house : List Str := ["_law_state", "_law_most", "_law_more", "_law_rooms_here"]
abbrev a_any_house : List Str := ["_law_state", "_law_most", "_law_more"]
theorem sc_any_house : FnScope n_any_house a_any_house (defScope s_any_house) := ⟨rfl, rfl, rfl, by decide +kernel, rfl, by decide +kernel, by decide +kernel⟩
abbrev s_lowest : Stmt := topS 54
abbrev n_lowest : List Str := ["_law_top", "_law_bottom", "_law_common_here"]
abbrev a_lowest : List Str := ["_law_top", "_law_bottom"]
theorem sc_lowest : FnScope n_lowest a_lowest (defScope s_lowest) := ⟨rfl, rfl, rfl, by decide +kernel, rfl, by decide +kernel, by decide +kernel⟩
abbrev s_ratio : Stmt := topS 55
abbrev n_ratio : List Str := ["_law_doors_here", "_law_steps_here", "_law_found", "_law_step", "_law_here", "_law_leaving", "_law_there", "_law_arriving"]
abbrev a_ratio : List Str := ["_law_doors_here", "_law_steps_here"]
theorem sc_ratio : FnScope n_ratio a_ratio (defScope s_ratio) := ⟨rfl, rfl, rfl, by decide +kernel, rfl, by decide +kernel, by decide +kernel⟩
abbrev s_round : Stmt := topS 56
abbrev n_round : List Str := ["_law_state", "_law_doors_here", "_law_room_here", "_law_many", "_law_here", "_law_steps_here", "_law_turn", "_law_some", "_law_step"]
abbrev a_round : List Str := ["_law_state", "_law_doors_here", "_law_room_here", "_law_many"]
theorem sc_round : FnScope n_round a_round (defScope s_round) := ⟨rfl, rfl, rfl, by decide +kernel, rfl, by decide +kernel, by decide +kernel⟩
abbrev s_is_bare_round : Stmt := topS 57
abbrev n_is_bare_round : List Str := ["_law_rooms_here", "_law_doors_here", "_law_thing", "_law_item"]
abbrev a_is_bare_round : List Str := ["_law_rooms_here", "_law_doors_here", "_law_thing"]
theorem sc_is_bare_round : FnScope n_is_bare_round a_is_bare_round (defScope s_is_bare_round) := ⟨rfl, rfl, rfl, by decide +kernel, rfl, by decide +kernel, by decide +kernel⟩
abbrev s_bad_house : Stmt := topS 58
abbrev n_bad_house : List Str := ["_law_state"]
abbrev a_bad_house : List Str := ["_law_state"]
theorem sc_bad_house : FnScope n_bad_house a_bad_house (defScope s_bad_house) := ⟨rfl, rfl, rfl, by decide +kernel, rfl, by decide +kernel, by decide +kernel⟩
abbrev s_are_signs : Stmt := topS 59
abbrev n_are_signs : List Str := ["_law_rooms_here", "_law_doors_here", "_law_thing", "_law_item", "_law_near", "_law_first", "_law_far", "_law_second"]
abbrev a_are_signs : List Str := ["_law_rooms_here", "_law_doors_here", "_law_thing"]
theorem sc_are_signs : FnScope n_are_signs a_are_signs (defScope s_are_signs) := ⟨rfl, rfl, rfl, by decide +kernel, rfl, by decide +kernel, by decide +kernel⟩
abbrev s_law : Stmt := topS 60
abbrev n_law : List Str := ["_law_script", "_law_state", "_law_turn", "_law_rooms_here", "_law_doors_here", "_law_turned", "_law_house_here", "_law_due", "_law_fits", "_law_found", "_law_told", "_law_room_here", "_law_steps_here", "_law_some", "_law_item", "_law_wrong", "_law_work", "_law_near", "_law_first", "_law_far", "_law_second"]
abbrev a_law : List Str := ["_law_script"]
theorem sc_law : FnScope n_law a_law (defScope s_law) := ⟨rfl, rfl, rfl, by decide +kernel, rfl, by decide +kernel, by decide +kernel⟩
end K19

set_option Elab.async false
set_option linter.all false
set_option maxRecDepth 100000
set_option maxHeartbeats 4000000
/-! Heaps, data, and the smallest defs. -/
namespace K19
open PySem L2

/-! ### a def by its name -/
/-- the module's name x stands for a def that keeps the promise sp -/
def DefAt (P : Program) (w : World) (K : PySem.W.Frag) (mg : Str → Option Value) (base : Heap) (CX : CXT) (k : Nat) (x : Str) (ps : List Str) (sp : Sp) : Prop :=
  ∃ f fd, mg x = some (.ref f) ∧ PySem.W.keepIn K (.ref f) = true ∧ Binds K fd ps [] ∧ FnOk P w K mg base CX k f fd ps sp
theorem DefAt.mono {P : Program} {w : World} {K : PySem.W.Frag} {mg : Str → Option Value} {base : Heap} {CX : CXT} {j k : Nat} {x : Str} {ps : List Str} {sp : Sp} (D : DefAt P w K mg base CX j x ps sp) (h : j ≤ k) : DefAt P w K mg base CX k x ps sp := by
  obtain ⟨f, fd, g, kp, b, F⟩ := D
  exact ⟨f, fd, g, kp, b, F.mono h⟩
section
variable {X : Cx} {k : Nat} {x : Str} {ps : List Str} {sp : Sp} {p pos : Pos} {e : Expr} {es : List Expr} {t : TA}
theorem pe_def (D : DefAt X.prog X.w X.K X.mg X.base CX0 k x ps sp) (hr : Room k X.A) (hg : Gl X x) (ha : PA X (e :: es) t) (hdb : (x == ("__debug__" : Str)) = false := by decide)
    (he : starEach (e :: es) X.env = (false, eval e X.env) :: starEach es X.env := by rfl) (hpl : (backTo pos (starEach es X.env)).any (·.1) = false := by rfl) : PE X (.Call (.Name x p) (e :: es) [] pos) (tCall sp [] E0 t) := by
  obtain ⟨f, fd, g, kp, b, F⟩ := D
  exact pe_call F hr hg g kp b .nil pass0 ha hdb he hpl
end

/-! ### rules whose reading names the written part, for a comprehension's block -/
section
variable {X : Cx} (K : PySem.W.Frag)
theorem ixT (h : X.K = K := by rfl) : IxR X (rIxT K) := by
  subst h
  exact ix_tup
theorem ixL (h : X.K = K := by rfl) : IxR X (rIxL K) := by
  subst h
  exact ix_list
theorem pgT {elts : List Expr} {kx} {pos : Pos} {n : Nat} {t : List V → St → Hp → (St → Hp → Prop) → Prop} (h : PG X (.Tuple elts kx pos) (gTup X.K n t)) (e : X.K = K := by rfl) : PG X (.Tuple elts kx pos) (gTup K n t) := by
  subst e
  exact h
theorem inS (h : X.K = K := by rfl) : OpR X (compareOp .In) (rIn K false) := by
  subst h
  exact op_in_seq
theorem notInS (h : X.K = K := by rfl) : OpR X (compareOp .NotIn) (rIn K true) := by
  subst h
  exact op_notIn_seq
theorem fldS {e : Expr} {f : Str} {pos : Pos} {ta : TE} (p : PE X (.Attribute e f pos) (tFld X.K ta f)) (h : X.K = K := by rfl) : PE X (.Attribute e f pos) (tFld K ta f) := by
  subst h
  exact p
theorem piT {tg l : Expr} {tl : TE} (p : PI X tg l (iTup X.K tl)) (h : X.K = K := by rfl) : PI X tg l (iTup K tl) := by
  subst h
  exact p
theorem rCatS (h : X.K = K := by rfl) : OpR X (binaryOp .Add) (rCatA K) := by
  subst h
  exact op_catA
end

/-! ### what the module's names stand for -/
structure Blt (mg : Str → Option Value) : Prop where
  isinstance : mg "isinstance" = none
  len : mg "len" = none
  all : mg "all" = none
  abs : mg "abs" = none
  int : mg "int" = none
  bool : mg "bool" = none
  tuple : mg "tuple" = none
  list : mg "list" = none
  range : mg "range" = none
  enumerate : mg "enumerate" = none
  reversed : mg "reversed" = none
  repr : mg "repr" = none

/-! ### heaps -/
/-- all but two objects stay -/
def Kp (d g : Addr) (H H' : Hp) : Prop := ∀ b o, b ≠ d → b ≠ g → H b = some o → H' b = some o
theorem Kp.refl (d g : Addr) (H : Hp) : Kp d g H H := fun _ _ _ _ h => h
theorem Kp.trans {d g : Addr} {H H1 H2 : Hp} (a : Kp d g H H1) (b : Kp d g H1 H2) : Kp d g H H2 := fun c o h1 h2 h => b c o h1 h2 (a c o h1 h2 h)
theorem kp_of {d g : Addr} {H H' : Hp} (a : Same H H') : Kp d g H H' := fun c o _ _ h => a c o h
theorem same_upd {H : Hp} {p : Addr} {o : HO} (hp : H p = none) : Same H (upd H p o) := fun b u e => by
  rw [upd_ne (ne_of_none e hp)]
  exact e
/-- what tuples hold stays -/
def TK (H H' : Hp) : Prop := (∀ b xs, H b = some (.tup xs) → H' b = some (.tup xs)) ∧ ∀ b C dx fs, H b = some (.ins C dx fs) → H' b = some (.ins C dx fs)
theorem TK.refl (H : Hp) : TK H H := ⟨fun _ _ h => h, fun _ _ _ _ h => h⟩
theorem TK.trans {H H1 H2 : Hp} (a : TK H H1) (b : TK H1 H2) : TK H H2 := ⟨fun c xs h => b.1 c xs (a.1 c xs h), fun c C dx fs h => b.2 c C dx fs (a.2 c C dx fs h)⟩
theorem tk_of {H H' : Hp} (a : Same H H') : TK H H' := ⟨fun c xs h => a c _ h, fun c C dx fs h => a c _ h⟩
theorem tk_new {H : Hp} {p : Addr} {o : HO} (hp : H p = none) : TK H (upd H p o) := tk_of (same_upd hp)
theorem tk_lst {H : Hp} {p : Addr} {xs : List V} {o : HO} (hp : H p = some (.lst xs)) : TK H (upd H p o) :=
  ⟨fun b u e => by rw [upd_ne (ne_of e hp (by intro z; cases z))]; exact e, fun b C dx fs e => by rw [upd_ne (ne_of e hp (by intro z; cases z))]; exact e⟩
theorem tk_dK {H : Hp} {p : Addr} {xs : List (Key × V)} {o : HO} (hp : H p = some (.dK xs)) : TK H (upd H p o) :=
  ⟨fun b u e => by rw [upd_ne (ne_of e hp (by intro z; cases z))]; exact e, fun b C dx fs e => by rw [upd_ne (ne_of e hp (by intro z; cases z))]; exact e⟩

/-! ### the law's state: the dict at d, its list of great numbers at g, its cells at c -/
def stD (g c : Addr) (l t : Int) : List (Key × V) := [(Sum.inr "great", .ref g), (Sum.inr "cells", .ref c), (Sum.inr "left", .int l), (Sum.inr "turn", .int t)]
/-- n is more than the turns so far -/
def StAt (d g c : Addr) (n : Nat) (H : Hp) : Prop := ∃ (gs cs : List Int) (l t : Int), g ≠ c ∧ 0 ≤ t ∧ t ≤ n ∧ H d = some (.dK (stD g c l t)) ∧ H g = some (.lst (gs.map V.int)) ∧ H c = some (.lst (cs.map V.int))
theorem StAt.same {d g c : Addr} {n : Nat} {H H' : Hp} (s : StAt d g c n H) (e : Same H H') : StAt d g c n H' := by
  obtain ⟨gs, cs, l, t, a, t0, t1, h1, h2, h3⟩ := s
  exact ⟨gs, cs, l, t, a, t0, t1, e _ _ h1, e _ _ h2, e _ _ h3⟩
theorem StAt.le {d g c : Addr} {n m : Nat} {H : Hp} (s : StAt d g c n H) (e : n ≤ m) : StAt d g c m H := by
  obtain ⟨gs, cs, l, t, a, t0, t1, h1, h2, h3⟩ := s
  exact ⟨gs, cs, l, t, a, t0, by omega, h1, h2, h3⟩
theorem StAt.tk {d g c : Addr} {n : Nat} {H H' : Hp} (s : StAt d g c n H) (k : Kp d g H H') : TK H H' := by
  obtain ⟨gs, cs, l, t, a, t0, t1, h1, h2, h3⟩ := s
  exact ⟨fun b xs e => k b _ (ne_of e h1 (by intro z; cases z)) (ne_of e h2 (by intro z; cases z)) e, fun b C dx fs e => k b _ (ne_of e h1 (by intro z; cases z)) (ne_of e h2 (by intro z; cases z)) e⟩
/-- a new object is none of the state's -/
theorem StAt.ned {d g c p : Addr} {n : Nat} {H : Hp} (s : StAt d g c n H) (hp : H p = none) : p ≠ d ∧ p ≠ g := by
  obtain ⟨gs, cs, l, t, a, t0, t1, h1, h2, h3⟩ := s
  exact ⟨(ne_of_none h1 hp).symm, (ne_of_none h2 hp).symm⟩
/-- another list than the state's is written -/
theorem StAt.other {d g c p : Addr} {n : Nat} {H : Hp} {xs ys : List V} (s : StAt d g c n H) (hp : H p = some (.lst xs)) (h1 : p ≠ g) (h2 : p ≠ c) : StAt d g c n (upd H p (.lst ys)) := by
  obtain ⟨gs, cs, l, t, a, t0, t1, z1, z2, z3⟩ := s
  exact ⟨gs, cs, l, t, a, t0, t1, by rw [upd_ne (ne_of z1 hp (by intro z; cases z))]; exact z1, by rw [upd_ne h1.symm]; exact z2, by rw [upd_ne h2.symm]; exact z3⟩
theorem stD_great (g c : Addr) (l t : Int) : valV (stD g c l t) (Sum.inr "great") = some (.ref g) := rfl
theorem stD_cells (g c : Addr) (l t : Int) : valV (stD g c l t) (Sum.inr "cells") = some (.ref c) := rfl
theorem stD_left (g c : Addr) (l t : Int) : valV (stD g c l t) (Sum.inr "left") = some (.int l) := rfl
theorem stD_turn (g c : Addr) (l t : Int) : valV (stD g c l t) (Sum.inr "turn") = some (.int t) := rfl
theorem stD_putl (g c : Addr) (l t z : Int) : putK (stD g c l t) (Sum.inr "left") (.int z) = stD g c z t := rfl
theorem stD_putt (g c : Addr) (l t z : Int) : putK (stD g c l t) (Sum.inr "turn") (.int z) = stD g c l z := rfl
theorem dg_great {d g c : Addr} {l t : Int} {H : Hp} (h : H d = some (.dK (stD g c l t))) : DGet H d (.str "great") (some (.ref g)) := DGet.k (k := Sum.inr "great") h
theorem dg_cells {d g c : Addr} {l t : Int} {H : Hp} (h : H d = some (.dK (stD g c l t))) : DGet H d (.str "cells") (some (.ref c)) := DGet.k (k := Sum.inr "cells") h
theorem dg_left {d g c : Addr} {l t : Int} {H : Hp} (h : H d = some (.dK (stD g c l t))) : DGet H d (.str "left") (some (.int l)) := DGet.k (k := Sum.inr "left") h
theorem dg_turn {d g c : Addr} {l t : Int} {H : Hp} (h : H d = some (.dK (stD g c l t))) : DGet H d (.str "turn") (some (.int t)) := DGet.k (k := Sum.inr "turn") h
theorem dp_left {d g c : Addr} {l t z : Int} {H : Hp} (h : H d = some (.dK (stD g c l t))) : DPut H d (.str "left") (.int z) (upd H d (.dK (stD g c z t))) := DPut.k (k := Sum.inr "left") h (by show 4 < sizeLine; decide)
theorem dp_turn {d g c : Addr} {l t z : Int} {H : Hp} (h : H d = some (.dK (stD g c l t))) : DPut H d (.str "turn") (.int z) (upd H d (.dK (stD g c l z))) := DPut.k (k := Sum.inr "turn") h (by show 4 < sizeLine; decide)
/-- the state's dict is written -/
theorem st_write {d g c : Addr} {n : Nat} {l t l' t' : Int} {gs cs : List Int} {H : Hp} (a : g ≠ c) (t0 : 0 ≤ t') (t1 : t' ≤ n) (hd : H d = some (.dK (stD g c l t))) (hg : H g = some (.lst (gs.map V.int))) (hc : H c = some (.lst (cs.map V.int))) :
    StAt d g c n (upd H d (.dK (stD g c l' t'))) ∧ Kp d g H (upd H d (.dK (stD g c l' t'))) := by
  have nd1 : g ≠ d := ne_of hg hd (by intro z; cases z)
  have nd2 : c ≠ d := ne_of hc hd (by intro z; cases z)
  exact ⟨⟨gs, cs, l', t', a, t0, t1, upd_same, by rw [upd_ne nd1]; exact hg, by rw [upd_ne nd2]; exact hc⟩, fun b o h1 _ e => by rw [upd_ne h1]; exact e⟩
/-- the state's list of great numbers is written -/
theorem st_great {d g c : Addr} {n : Nat} {l t : Int} {gs gs' cs : List Int} {H : Hp} (a : g ≠ c) (t0 : 0 ≤ t) (t1 : t ≤ n) (hd : H d = some (.dK (stD g c l t))) (hg : H g = some (.lst (gs.map V.int))) (hc : H c = some (.lst (cs.map V.int))) :
    StAt d g c n (upd H g (.lst (gs'.map V.int))) ∧ Kp d g H (upd H g (.lst (gs'.map V.int))) := by
  have nd1 : d ≠ g := ne_of hd hg (by intro z; cases z)
  exact ⟨⟨gs', cs, l, t, a, t0, t1, by rw [upd_ne nd1]; exact hd, upd_same, by rw [upd_ne a.symm]; exact hc⟩, fun b o _ h1 e => by rw [upd_ne h1]; exact e⟩
theorem map_at {ns : List Int} {i : Nat} {x : V} (h : (ns.map V.int)[i]? = some x) : ∃ z, ns[i]? = some z ∧ x = V.int z := by
  rw [List.getElem?_map] at h
  cases e : ns[i]? with
  | none => rw [e] at h; cases h
  | some z => rw [e] at h; exact ⟨z, rfl, (Option.some.inj h).symm⟩
end K19

set_option Elab.async false
set_option linter.all false
set_option maxRecDepth 100000
set_option maxHeartbeats 4000000
/-! The draws. -/
namespace K19
open PySem L2

theorem eqvAll_nil (ns : List Int) : PyData.eqvAll (ns.map PyData.int) [] = ns.isEmpty := by
  cases ns <;> rfl
theorem can_ints : ∀ ns : List Int, PyData.canLayAll0 (ns.map PyData.int) = true
  | [] => rfl
  | n :: r => by
    show (true && PyData.canLayAll0 (r.map PyData.int)) = true
    rw [can_ints r]
    rfl
theorem depth_ints : ∀ ns : List Int, PyData.depthAll (ns.map PyData.int) = 0
  | [] => rfl
  | n :: r => by
    show max 0 (PyData.depthAll (r.map PyData.int)) = 0
    rw [depth_ints r]
    rfl
theorem shaped_list (ns : List Int) : SeqAt.shaped (.list (ns.map PyData.int)) = true := by
  show (PyData.canLayAll0 (ns.map PyData.int) && decide (PyData.depthAll (ns.map PyData.int) + 1 ≤ 64)) = true
  rw [can_ints, depth_ints]
  rfl
theorem dp_ints {K : PySem.W.Frag} {H : Hp} : ∀ ns : List Int, DpAll K H (ns.map V.int) (ns.map PyData.int)
  | [] => .nil
  | n :: r => .cons (.int n) (dp_ints r)
theorem dp_list {K : PySem.W.Frag} {H : Hp} {a : Addr} {ns : List Int} (h : H a = some (.lst (ns.map V.int))) : Dp K H (.ref a) (.list (ns.map PyData.int)) := .lst (SqL.of h) (dp_ints ns)
theorem dp_nil {K : PySem.W.Frag} {H : Hp} {a : Addr} (h : H a = some (.lst [])) : Dp K H (.ref a) (.list []) := .lst (SqL.of h) .nil

/-- _law_begun(script): the state -/
def spBegun (K : PySem.W.Frag) : Sp := fun vs H Q _ => ∃ (a : Addr) (ns : List Int), vs = [.ref a] ∧ SqL K H a (ns.map V.int) ∧ ns.length ≤ 63 ∧ ∀ (H' : Hp) (d g c : Addr), Same H H' → StAt d g c 0 H' → Q (.ref d) H'
/-- _law_blended(state): some number -/
def spBlended : Sp := fun vs H Q _ => ∃ (d g c : Addr) (n : Nat), vs = [.ref d] ∧ StAt d g c n H ∧ n ≤ 1000000 ∧ ∀ (H' : Hp) (z : Int), Kp d g H H' → StAt d g c (n + 1) H' → Q (.int z) H'
/-- _law_draw(state, m): some number below m -/
def spDraw : Sp := fun vs H Q _ => ∃ (d g c : Addr) (n : Nat) (m : Int), vs = [.ref d, .int m] ∧ StAt d g c n H ∧ n ≤ 1000000 ∧ 0 < m ∧ m < 1073741824 ∧ ∀ (H' : Hp) (z : Int), Kp d g H H' → StAt d g c (n + 1) H' → 0 ≤ z → z < m → Q (.int z) H'
/-- _law_pick(state, several): one of them -/
def spPick : Sp := fun vs H Q _ => ∃ (d g c a : Addr) (n : Nat) (xs : List V), vs = [.ref d, .ref a] ∧ StAt d g c n H ∧ n ≤ 1000000 ∧ H a = some (.lst xs) ∧ a ≠ g ∧ xs ≠ [] ∧ xs.length < 1000 ∧ ∀ (H' : Hp) (x : V), Kp d g H H' → StAt d g c (n + 1) H' → x ∈ xs → Q x H'

theorem primes_at {i : Nat} {x : V} (hx : [V.int 2147483587, V.int 2147483563, V.int 2147483549][i]? = some x) : ∃ pr : Int, x = V.int pr ∧ 2147483549 ≤ pr ∧ pr ≤ 2147483587 := by
  match i, hx with
  | 0, hx => exact ⟨_, (Option.some.inj hx).symm, by decide, by decide⟩
  | 1, hx => exact ⟨_, (Option.some.inj hx).symm, by decide, by decide⟩
  | 2, hx => exact ⟨_, (Option.some.inj hx).symm, by decide, by decide⟩
  | n + 3, hx => simp at hx
theorem blend0 {t pr : Int} {n : Nat} (h0 : 0 ≤ t) (h1 : t ≤ n) (hn : n ≤ 1000000) (h2 : 2147483549 ≤ pr) (h3 : pr ≤ 2147483587) : (40692 * (t + 1) + pr.fdiv 61).natAbs < 2 ^ 64 := by
  rw [Int.fdiv_eq_ediv_of_nonneg _ (by decide)]
  omega
theorem blend1 {z pr : Int} (h2 : 2147483549 ≤ pr) (h3 : pr ≤ 2147483587) : (z.fmod pr).natAbs < 2 ^ 64 := by
  rw [Int.fmod_eq_emod_of_nonneg _ (by omega)]
  have a := Int.emod_nonneg z (show pr ≠ 0 by omega)
  have b := Int.emod_lt_of_pos z (show 0 < pr by omega)
  omega

theorem atI_of {α : Type} {xs : List α} {z : Int} {v : α} (h0 : 0 ≤ z) (h : xs[z.toNat]? = some v) : atI xs z = some v := by
  have e : (z.toNat : Int) = z := Int.toNat_of_nonneg h0
  rw [← e]
  exact atI_nat h

section
variable {P : Program} {w : World} {K : PySem.W.Frag} {mg : Str → Option Value} {base : Heap} {f : Addr} {fd : FuncData}

theorem ok_blended (F : Fun K "_law_blended" "_law_blended" s_blended f fd) (B : Blt mg) : FnOk P w K mg base CX0 1 f fd a_blended spBlended := by
  refine F.ok sc_blended (fun vs H Q E h => ?_) (fun cdv A outer s H vs Q E hr h => ?_)
  · obtain ⟨d, g, c, n, rfl, _⟩ := h
    rfl
  · obtain ⟨d, g, c, n, rfl, hS, hn, k⟩ := h
    obtain ⟨gs, cs, l, t, ngc, t0, t1, hd, hg, hc⟩ := hS
    have hu := hu_of hr
    refine ⟨_, pss_cons (ps_par (i := 1) (j := 2) (by rfl) sc_blended.nd rfl rfl (by decide) rfl rfl (pa_cons (pe_op op_add (pe_dget hu (pv 0) pe_str (fun _ _ => rfl)) pe_int) (pa_cons pe_int pa_nil)) (by rfl))
      (pss_cons (ps_dput hu (pv 0) pe_str (pv 1) rfl)
      (pss_cons (ps_for PassesOwn.never rfl (pi_list (pe_lst (pa_cons pe_int (pa_cons pe_int (pa_cons pe_int pa_nil))))) (pg_name (i := 3) sc_blended.nd rfl (Or.inl rfl))
        (pss_cons (ps_set (i := 4) sc_blended.nd rfl (Or.inl rfl) (pe_op op_add (pe_op op_mul pe_int (pv 1)) (pe_op op_fdivN (pv 3) pe_int)))
        (pss_cons (ps_for PassesOwn.never rfl (pi_list (pe_dget hu (pv 0) pe_str (fun _ _ => rfl))) (pg_name (i := 5) sc_blended.nd rfl (Or.inl rfl))
          (pss_one (ps_set (i := 4) sc_blended.nd rfl (Or.inl rfl) (pe_op op_modN (pe_callTy call_int1 (by rfl) B.int (by decide +kernel) (pa_cons (pe_op op_add (pe_op op_add (pe_op op_mul (pv 4) pe_int) (pv 5)) (pv 1)) pa_nil)) (pv 3)))))
        (pss_one (ps_set (i := 2) sc_blended.nd rfl (Or.inl rfl) (pe_op op_add (pe_op op_mul (pv 2) pe_int) (pe_op op_modN (pe_callTy call_int1 (by rfl) B.int (by decide +kernel) (pa_cons (pe_op op_pow (pv 4) pe_int) pa_nil)) (pv 3))))))))
      (pss_one (ps_ret (pv 2))))), ?_⟩
    obtain ⟨S1, K1⟩ := st_write (n := n + 1) (l' := l) (t' := t + 1) ngc (by omega) (by omega) hd hg hc
    refine ⟨_, rfl, d, _, rfl, dg_turn hd, _, _, rfl, rfl, _, _, rfl, ?_⟩
    refine ⟨_, rfl, _, rfl, d, _, rfl, dp_turn hd, ?_⟩
    generalize upd H d (.dK (stD g c l (t + 1))) = H1 at S1 K1 ⊢
    refine ⟨(by decide : 3 ≤ sizeLine), fun p hp => ?_⟩
    have e2 := same_upd (o := .lst [V.int 2147483587, V.int 2147483563, V.int 2147483549]) hp
    have S2 := S1.same e2
    have K2 : Kp d g H (upd H1 p (.lst [V.int 2147483587, V.int 2147483563, V.int 2147483549])) := K1.trans (kp_of e2)
    have hp2 : (upd H1 p (.lst [V.int 2147483587, V.int 2147483563, V.int 2147483549])) p = some (.lst [V.int 2147483587, V.int 2147483563, V.int 2147483549]) := upd_same
    generalize upd H1 p (.lst [V.int 2147483587, V.int 2147483563, V.int 2147483549]) = H2 at S2 K2 hp2 ⊢
    refine ⟨p, rfl, ⟨_, SqL.of hp2⟩, for_list (K := K) (a := p) (xs := [V.int 2147483587, V.int 2147483563, V.int 2147483549]) (fun i σ H' => H' = H2 ∧ ∃ (y : Int) (v4 v5 v3 : Option V), σ = [some (.ref d), some (.int (t + 1)), some (.int y), v3, v4, v5]) ⟨rfl, 0, none, none, none, rfl⟩ (fun i σ H' _ ⟨e, _⟩ => by rw [e]; exact SqL.of hp2) ?_ ?_⟩
    · rintro i x σ H' hx ⟨rfl, y, v4, v5, v3, rfl⟩
      obtain ⟨pr, rfl, hp1, hp3⟩ := primes_at hx
      refine ⟨_, rfl, _, _, rfl, rfl, .inl ⟨by decide, by decide⟩, _, rfl, _, _, rfl, rfl, ⟨by decide, by decide⟩, _, _, rfl, rfl, ?_⟩
      obtain ⟨gs, cs, l, t', ngc, _, _, hd, hg, hc⟩ := S2
      refine ⟨_, rfl, d, _, rfl, dg_cells hd, c, rfl, ⟨_, SqL.of hc⟩, for_list (K := K) (a := c) (xs := cs.map V.int) (fun j σ H'' => H'' = H' ∧ ∃ (y' : Int) (v5 : Option V), σ = [some (.ref d), some (.int (t + 1)), some (.int y), some (.int pr), some (.int y'), v5] ∧ y'.natAbs < 2 ^ 64) ⟨rfl, _, _, rfl, blend0 t0 t1 hn hp1 hp3⟩ (fun i σ H' _ ⟨e, _⟩ => by rw [e]; exact SqL.of hc) ?_ ?_⟩
      · rintro j x σ H'' hx ⟨rfl, y', v5, rfl, hy⟩
        obtain ⟨cell, _, rfl⟩ := map_at hx
        refine ⟨_, rfl, _, _, rfl, rfl, .inr ⟨by decide, by decide⟩, _, rfl, _, _, rfl, rfl, _, rfl, _, _, rfl, rfl, .inl ⟨_, rfl, ?_⟩⟩
        exact ⟨_, rfl, _, _, rfl, rfl, by omega, rfl, _, _, rfl, blend1 hp1 hp3⟩
      · rintro σ H'' ⟨rfl, y', v5, rfl, hy⟩
        exact ⟨_, rfl, _, _, rfl, rfl, .inr ⟨by decide, by decide⟩, _, rfl, _, _, rfl, rfl, ⟨by decide, by decide, hy⟩, .inl ⟨_, rfl, _, rfl, _, _, rfl, rfl, by omega, _, _, rfl, rfl, rfl, _, _, _, _, rfl⟩⟩
    · rintro σ H' ⟨rfl, y, v4, v5, v3, rfl⟩
      exact ⟨_, rfl, k _ _ K2 S2⟩

theorem ok_draw (F : Fun K "_law_draw" "_law_draw" s_draw f fd) (B : Blt mg) (DB : DefAt P w K mg base CX0 1 "_law_blended" a_blended spBlended) : FnOk P w K mg base CX0 2 f fd a_draw spDraw := by
  refine F.ok sc_draw (fun vs H Q E h => ?_) (fun cdv A outer s H vs Q E hr h => ?_)
  · obtain ⟨d, g, c, n, m, rfl, _⟩ := h
    rfl
  · obtain ⟨d, g, c, n, m, rfl, hS, hn, m0, m1, k⟩ := h
    have hu := hu_of hr
    refine ⟨_, C8.pss_cut (ps_if (pt_cmpR op_eq (pe_dget hu (pv 0) pe_str (fun _ _ => rfl)) pe_int (nomark _))
        (pss_one (ps_dput hu (pv 0) pe_str (pe_ifExp (pt_cmpR (op_neD hr.units) (pe_dget hu (pv 0) pe_str (fun _ _ => rfl)) (pe_lst pa_nil) (nomark _))
          (pe_bm PySem.F.plainAttrs_list PySem.F.slot_list_pop PySem.F.type_list_pop mt_popAt (pe_dget hu (pv 0) pe_str (fun _ _ => rfl)) (pa_cons pe_int pa_nil)) (pe_def DB hr rfl (pa_cons (pv 0) pa_nil))) rfl)) pss_nil)
      (pss_cons (ps_set (i := 2) sc_draw.nd rfl (.inl rfl) (pe_op op_mod (pe_callTy call_int1 (by rfl) B.int (by decide +kernel) (pa_cons (pe_dget hu (pv 0) pe_str (fun _ _ => rfl)) pa_nil)) (pv 1)))
      (pss_cons (ps_dput hu (pv 0) pe_str (pe_op op_fdiv (pe_dget hu (pv 0) pe_str (fun _ _ => rfl)) (pv 1)) rfl)
      (pss_one (ps_ret (pv 2))))), ?_⟩
    -- behind the if: some number is left
    refine ⟨fun σ H' => σ = [some (.ref d), some (.int m), none] ∧ Kp d g H H' ∧ StAt d g c (n + 1) H', ?_, ?_⟩
    · have hS0 := hS
      obtain ⟨gs, cs, l, t, ngc, t0, t1, hd, hg, hc⟩ := hS
      refine ⟨_, rfl, d, _, rfl, dg_left hd, rfl, _, rfl, ite2 (fun _ => ?_) (fun _ => ⟨rfl, Kp.refl _ _ _, hS0.le (Nat.le_succ _)⟩)⟩
      refine ⟨_, rfl, d, _, rfl, dg_great hd, (by decide : 0 ≤ sizeLine), fun p hp => ?_⟩
      have e2 := same_upd (o := .lst []) hp
      have S2 := hS0.same e2
      have hp2 : (upd H p (.lst [])) p = some (.lst []) := upd_same
      have hd := e2 _ _ hd
      have hg := e2 _ _ hg
      have hc := e2 _ _ hc
      have K2 : Kp d g H (upd H p (.lst [])) := kp_of e2
      generalize upd H p (.lst []) = H2 at S2 hp2 hd hg hc K2 ⊢
      refine ⟨_, _, dp_list hg, dp_nil hp2, shaped_list _, rfl, _, rfl, ?_⟩
      show if (!PyData.eqvAll (gs.map PyData.int) []) = true then _ else _
      rw [eqvAll_nil]
      cases gs with
      | nil =>
        refine iteF ?_
        refine ⟨_, rfl, d, g, c, n, rfl, S2, hn, fun H3 z K3 S3 => ?_⟩
        obtain ⟨gs, cs, l, t, ngc, t0, t1, hd, hg, hc⟩ := S3
        obtain ⟨S4, K4⟩ := st_write (n := n + 1) (l' := z) (t' := t) ngc t0 t1 hd hg hc
        exact ⟨_, rfl, d, _, rfl, dp_left hd, rfl, (K2.trans K3).trans K4, S4⟩
      | cons z gs =>
        refine iteT ?_
        refine ⟨_, rfl, d, _, rfl, dg_great hd, .inl ⟨rfl, _, SqL.of hg⟩, g, _, 0, 0, _, rfl, rfl, hg, by decide, by decide, ?_, rfl, ?_⟩
        · exact PySem.seqIndex_of (by decide) (by rw [List.length_map, List.length_cons]; omega)
        · obtain ⟨S3, K3⟩ := st_great (n := n) (gs' := gs) ngc t0 t1 hd hg hc
          have e3 : (List.map V.int (z :: gs)).eraseIdx 0 = gs.map V.int := rfl
          rw [e3]
          obtain ⟨gs, cs, l, t, ngc, t0, t1, hd, hg, hc⟩ := S3
          obtain ⟨S4, K4⟩ := st_write (n := n) (l' := z) (t' := t) ngc t0 t1 hd hg hc
          exact ⟨_, rfl, d, _, rfl, dp_left hd, rfl, (K2.trans K3).trans K4, S4.le (Nat.le_succ _)⟩
    · rintro σ H1 ⟨rfl, K1, S1⟩
      obtain ⟨gs, cs, l, t, ngc, t0, t1, hd, hg, hc⟩ := S1
      obtain ⟨S4, K4⟩ := st_write (n := n + 1) (l' := l / m) (t' := t) ngc t0 t1 hd hg hc
      refine ⟨_, rfl, d, _, rfl, dg_left hd, .inl ⟨_, rfl, _, rfl, _, _, rfl, rfl, m0, ?_⟩⟩
      refine ⟨_, rfl, d, _, rfl, dg_left hd, _, rfl, _, _, rfl, rfl, ⟨m0, m1⟩, _, rfl, d, _, rfl, dp_left hd, ?_⟩
      exact ⟨_, rfl, k _ _ (K1.trans K4) S4 (Int.emod_nonneg _ (by omega)) (Int.emod_lt_of_pos _ m0)⟩

theorem ok_pick (F : Fun K "_law_pick" "_law_pick" s_pick f fd) (B : Blt mg) (DD : DefAt P w K mg base CX0 2 "_law_draw" a_draw spDraw) : FnOk P w K mg base CX0 3 f fd a_pick spPick := by
  refine F.ok sc_pick (fun vs H Q E h => ?_) (fun cdv A outer s H vs Q E hr h => ?_)
  · obtain ⟨d, g, c, a, n, xs, rfl, _⟩ := h
    rfl
  · obtain ⟨d, g, c, a, n, xs, rfl, hS, hn, ha, nag, hne, hl, k⟩ := h
    refine ⟨_, pss_one (ps_ret (pe_ix ix_list (pv 1) (pe_def DD hr rfl (pa_cons (pv 0) (pa_cons (pe_callB call_len_seq (by rfl) B.len PySem.boot_len (pa_cons (pv 1) pa_nil)) pa_nil))) (fun _ _ => rfl))), ?_⟩
    have h0 : 0 < xs.length := List.length_pos_iff.mpr hne
    refine ⟨_, rfl, _, rfl, _, rfl, a, xs, rfl, .inl (SqL.of ha), d, g, c, n, _, rfl, hS, hn, by omega, by omega, fun H1 z K1 S1 z0 z1 => ?_⟩
    have nad : a ≠ d := by
      obtain ⟨gs, cs, l, t, _, _, _, hd, _, _⟩ := hS
      exact ne_of ha hd (by intro z; cases z)
    have ha1 := K1 _ _ nad nag ha
    have hz : z.toNat < xs.length := by omega
    have e : (z.toNat : Int) = z := by omega
    refine ⟨a, xs, z, xs[z.toNat], rfl, rfl, SqL.of ha1, ?_, k _ _ K1 S1 (List.getElem_mem hz)⟩
    exact atI_of z0 (List.getElem?_eq_getElem hz)

theorem ok_begun (F : Fun K "_law_begun" "_law_begun" s_begun f fd) (B : Blt mg) : FnOk P w K mg base CX0 1 f fd a_begun (spBegun K) := by
  refine F.ok sc_begun (fun vs H Q E h => ?_) (fun cdv A outer s H vs Q E hr h => ?_)
  · obtain ⟨a, ns, rfl, _⟩ := h
    rfl
  · obtain ⟨a, ns, rfl, hS, hl, k⟩ := h
    refine ⟨_, pss_cons (ps_setLc (i := 1) (own := [("_law_cell", 2)]) (g := gName 2) rfl sc_begun.nd rfl rfl (sw_true rfl rfl rfl (by decide +kernel)) (pi_list (pv 0)) (blkOk_by (N := n_begun) (sc := defScope s_begun) (by decide +kernel)) (fun _ _ _ _ _ => pg_name (i := 2) sc_begun.nd rfl (Or.inl rfl))
        (fun _ _ _ _ _ => pts_one (pt_cmpR op_ge (pe_callB call_abs (by rfl) B.abs (by decide +kernel) (pa_cons (pv 2) pa_nil)) (pe_op op_pow pe_int pe_int) (nomark _)))
        (fun _ _ _ _ _ => pe_op op_sub (pe_callB call_abs (by rfl) B.abs (by decide +kernel) (pa_cons (pv 2) pa_nil)) (pe_op op_pow pe_int pe_int)))
      (pss_one (ps_ret (pe_disp (pps_cons pe_str (pv 1) (pps_cons pe_str (pe_lc (own := [("_law_cell", 2)]) (g := gName 2) (tt := tYes) rfl sc_begun.nd (pi_list (pv 0)) (blkOk_by (N := n_begun) (sc := defScope s_begun) (by decide +kernel)) (fun _ _ _ _ _ => pg_name (i := 2) sc_begun.nd rfl (Or.inl rfl)) (fun _ _ _ _ _ => pts_nil)
          (fun _ _ _ _ _ => pe_callB call_abs (by rfl) B.abs (by decide +kernel) (pa_cons (pv 2) pa_nil))) (pps_cons pe_str pe_int (pps_cons pe_str pe_int pps_nil)))) (by rfl) (by rfl) (fun z => by cases z) (by decide)))), ?_⟩
    have h1000 : ∀ xs : List V, xs.length ≤ 63 → xs.length < sizeLine := fun xs h => Nat.lt_of_le_of_lt h (by decide)
    refine ⟨_, rfl, a, rfl, ⟨_, hS⟩, fun D hD => lc_list (K := K) (a := a) (xs := ns.map V.int) (fun i H' => Same H H' ∧ ∃ gs : List Int, gs.length ≤ i ∧ H' D = some (.lst (gs.map V.int)))
      ⟨same_upd hD, [], Nat.le_refl _, upd_same⟩ (fun i H' _ ⟨e, _⟩ => e.seq hS) ?_ ?_⟩
    · rintro i x H' hx ⟨e, gs, hgl, hg⟩
      obtain ⟨cell, hc, rfl⟩ := map_at hx
      have hi : i < ns.length := (List.getElem?_eq_some_iff.mp hc).1
      refine ⟨rfl, _, rfl, _, rfl, _, _, rfl, rfl, ⟨by decide, by decide, by decide⟩, _, _, rfl, rfl, _, rfl, ite2 (fun _ => ?_) (fun _ => ⟨e, gs, by omega, hg⟩)⟩
      refine ⟨_, rfl, _, rfl, _, _, rfl, rfl, ⟨by decide, by decide, by decide⟩, _, _, rfl, rfl, gs.map V.int, hg, h1000 _ (by rw [List.length_map]; omega), ?_⟩
      have nD : ∀ b o, H b = some o → b ≠ D := fun b o q => ne_of_none q hD
      refine ⟨fun b o q => by rw [upd_ne (nD b o q)]; exact e _ _ q, gs ++ [(if cell < 0 then -cell else cell) - 10 ^ (18 : Int).toNat], by rw [List.length_append, List.length_singleton]; omega, ?_⟩
      rw [upd_same, List.map_append]
      rfl
    · rintro H1 ⟨e1, gs, hgl, hg⟩
      intro p hp
      have e2 := same_upd (o := .dK []) hp
      have hp2 : (upd H1 p (.dK [])) p = some (.dK []) := upd_same
      have e12 := e1.trans e2
      have npD : D ≠ p := ne_of_none hg hp
      have hg := e2 _ _ hg
      generalize upd H1 p (.dK []) = H2 at e2 hp2 e12 hg ⊢
      refine ⟨_, rfl, _, rfl, a, rfl, ⟨_, e12.seq hS⟩, fun D2 hD2 => lc_list (K := K) (a := a) (xs := ns.map V.int) (fun i H' => Same H2 H' ∧ ∃ gs : List Int, gs.length ≤ i ∧ H' D2 = some (.lst (gs.map V.int)))
        ⟨same_upd hD2, [], Nat.le_refl _, upd_same⟩ (fun i H' _ ⟨e, _⟩ => (e12.trans e).seq hS) ?_ ?_⟩
      · rintro i x H' hx ⟨e, gs, hgl, hg⟩
        obtain ⟨cell, hc, rfl⟩ := map_at hx
        have hi : i < ns.length := (List.getElem?_eq_some_iff.mp hc).1
        refine ⟨rfl, _, rfl, _, rfl, gs.map V.int, hg, h1000 _ (by rw [List.length_map]; omega), ?_⟩
        have nD : ∀ b o, H2 b = some o → b ≠ D2 := fun b o q => ne_of_none q hD2
        refine ⟨fun b o q => by rw [upd_ne (nD b o q)]; exact e _ _ q, gs ++ [if cell < 0 then -cell else cell], by rw [List.length_append, List.length_singleton]; omega, ?_⟩
        rw [upd_same, List.map_append]
        rfl
      · rintro H3 ⟨e3, cs, hcl, hc⟩
        have hg3 := e3 _ _ hg
        have hp3 := e3 _ _ hp2
        have n1 : D ≠ D2 := ne_of_none hg hD2
        have hpH : H p = none := e1.free hp
        refine ⟨hp3, stD D D2 0 0, rfl, (by decide : 4 ≤ 15), k _ p D D2 (fun b o q => ?_) ⟨gs, cs, 0, 0, n1, by decide, by decide, ?_, ?_, ?_⟩⟩
        · rw [upd_ne (ne_of_none q hpH)]
          exact e3 _ _ (e12 _ _ q)
        · rw [upd_same]
          rfl
        · rw [upd_ne npD]
          exact hg3
        · rw [upd_ne (ne_of hc hp3 (by intro z; cases z))]
          exact hc
end
end K19

set_option Elab.async false
set_option linter.all false
set_option maxRecDepth 100000
set_option maxHeartbeats 4000000
/-! Doors, passes, their data; the smallest defs. -/
namespace K19
open PySem L2

structure Dr where
  n : Int
  f : Int
  r : Int
  s : Int
def Dr.flip (d : Dr) : Dr := ⟨d.r, d.s, d.n, d.f⟩
abbrev Stp := Int × Int
def gate (ds : List Dr) (p : Stp) : Dr := if p.2 = 0 then ds.getD p.1.toNat ⟨0, 0, 0, 0⟩ else (ds.getD p.1.toNat ⟨0, 0, 0, 0⟩).flip
def okStp (ds : List Dr) (p : Stp) : Prop := 0 ≤ p.1 ∧ p.1 < ds.length ∧ (p.2 = 0 ∨ p.2 = 1)
def doorV (d : Dr) : List V := [.int d.n, .int d.f, .int d.r, .int d.s]
def stpV (p : Stp) : List V := [.int p.1, .int p.2]
def IsDoor (H : Hp) (v : V) (d : Dr) : Prop := ∃ a, v = .ref a ∧ H a = some (.tup (doorV d))
def IsStp (H : Hp) (v : V) (p : Stp) : Prop := ∃ a, v = .ref a ∧ H a = some (.tup (stpV p))
def IsDoors (H : Hp) (a : Addr) (ds : List Dr) : Prop := ∃ vs, H a = some (.tup vs) ∧ Paired (IsDoor H) vs ds
def IsStps (H : Hp) (a : Addr) (ps : List Stp) : Prop := ∃ vs, H a = some (.tup vs) ∧ Paired (IsStp H) vs ps
section
variable {H H' : Hp} {v : V} {a : Addr}
theorem IsDoor.tk {d : Dr} (h : IsDoor H v d) (k : TK H H') : IsDoor H' v d := by
  obtain ⟨a, e, h⟩ := h
  exact ⟨a, e, k.1 _ _ h⟩
theorem IsStp.tk {d : Stp} (h : IsStp H v d) (k : TK H H') : IsStp H' v d := by
  obtain ⟨a, e, h⟩ := h
  exact ⟨a, e, k.1 _ _ h⟩
theorem doors_tk {vs : List V} {ds : List Dr} (h : Paired (IsDoor H) vs ds) (k : TK H H') : Paired (IsDoor H') vs ds := L2.Paired.mapP h fun _ _ z => z.tk k
theorem stps_tk {vs : List V} {ds : List Stp} (h : Paired (IsStp H) vs ds) (k : TK H H') : Paired (IsStp H') vs ds := L2.Paired.mapP h fun _ _ z => z.tk k
theorem IsDoors.tk {ds : List Dr} (h : IsDoors H a ds) (k : TK H H') : IsDoors H' a ds := by
  obtain ⟨vs, h1, h2⟩ := h
  exact ⟨vs, k.1 _ _ h1, doors_tk h2 k⟩
theorem IsStps.tk {ps : List Stp} (h : IsStps H a ps) (k : TK H H') : IsStps H' a ps := by
  obtain ⟨vs, h1, h2⟩ := h
  exact ⟨vs, k.1 _ _ h1, stps_tk h2 k⟩
end
theorem pair_at {α β : Type} {F : α → β → Prop} : ∀ {l : List α} {m : List β} {i : Nat} {y : β}, Paired F l m → m[i]? = some y → ∃ x, l[i]? = some x ∧ F x y
  | _, _, i, y, .nil, h => by simp at h
  | _, _, 0, y, .cons r _, h => ⟨_, rfl, by cases h; exact r⟩
  | _, _, i + 1, y, .cons _ t, h => pair_at (i := i) t (by simpa using h)
theorem pair_at' {α β : Type} {F : α → β → Prop} : ∀ {l : List α} {m : List β} {i : Nat} {x : α}, Paired F l m → l[i]? = some x → ∃ y, m[i]? = some y ∧ F x y
  | _, _, i, x, .nil, h => by simp at h
  | _, _, 0, x, .cons r _, h => ⟨_, rfl, by cases h; exact r⟩
  | _, _, i + 1, x, .cons _ t, h => pair_at' (i := i) t (by simpa using h)
theorem pair_app {α β : Type} {F : α → β → Prop} : ∀ {l l' : List α} {m m' : List β}, Paired F l m → Paired F l' m' → Paired F (l ++ l') (m ++ m')
  | _, _, _, _, .nil, h => h
  | _, _, _, _, .cons r t, h => .cons r (pair_app t h)
theorem getD_at {α : Type} {l : List α} {i : Nat} {d : α} (h : i < l.length) : l[i]? = some (l.getD i d) := by
  rw [List.getElem?_eq_getElem h, List.getD_eq_getElem?_getD, List.getElem?_eq_getElem h]
  rfl
theorem door_at {H : Hp} {vs : List V} {ds : List Dr} (h : Paired (IsDoor H) vs ds) {i : Int} (h0 : 0 ≤ i) (h1 : i < ds.length) : ∃ a, atI vs i = some (.ref a) ∧ H a = some (.tup (doorV (ds.getD i.toNat ⟨0, 0, 0, 0⟩))) := by
  obtain ⟨x, hx, a, rfl, ha⟩ := pair_at h (getD_at (d := ⟨0, 0, 0, 0⟩) (show i.toNat < ds.length by omega))
  exact ⟨a, atI_of h0 hx, ha⟩

/-- _law_gate(doors, step) -/
def spGate : Sp := fun vs H Q _ => ∃ (D p : Addr) (ds : List Dr) (st : Stp), vs = [.ref D, .ref p] ∧ IsDoors H D ds ∧ H p = some (.tup (stpV st)) ∧ okStp ds st ∧ ∀ q, H q = none → Q (.ref q) (upd H q (.tup (doorV (gate ds st))))

section
variable {P : Program} {w : World} {K : PySem.W.Frag} {mg : Str → Option Value} {base : Heap} {f : Addr} {fd : FuncData}
theorem ok_gate (F : Fun K "_law_gate" "_law_gate" s_gate f fd) (B : Blt mg) : FnOk P w K mg base CX0 1 f fd a_gate spGate := by
  refine F.ok sc_gate (fun vs H Q E h => ?_) (fun cdv A outer s H vs Q E hr h => ?_)
  · obtain ⟨D, p, ds, st, rfl, _⟩ := h
    rfl
  · obtain ⟨D, p, ds, st, rfl, ⟨vs, hD, hP⟩, hp, ⟨h0, h1, h2⟩, k⟩ := h
    refine ⟨_, pss_cons (ps_asg (pe_ix ix_tup (pv 0) (pe_ix ix_tup (pv 1) pe_int (fun _ _ => rfl)) (fun _ _ => rfl)) (pg_tup rfl (pgs_cons (pg_name (i := 2) sc_gate.nd rfl (Or.inl rfl)) (pgs_cons (pg_name (i := 3) sc_gate.nd rfl (Or.inl rfl)) (pgs_cons (pg_name (i := 4) sc_gate.nd rfl (Or.inl rfl)) (pgs_cons (pg_name (i := 5) sc_gate.nd rfl (Or.inl rfl)) pgs_nil))))))
      (pss_one (ps_ret (pe_ifExp (pt_cmpR op_eq (pe_ix ix_tup (pv 1) pe_int (fun _ _ => rfl)) pe_int (nomark _)) (pe_tup (pa_cons (pv 2) (pa_cons (pv 3) (pa_cons (pv 4) (pa_cons (pv 5) pa_nil))))) (pe_tup (pa_cons (pv 4) (pa_cons (pv 5) (pa_cons (pv 2) (pa_cons (pv 3) pa_nil)))))))), ?_⟩
    obtain ⟨a, ha, hda⟩ := door_at hP h0 h1
    refine ⟨_, rfl, _, rfl, p, _, _, _, rfl, rfl, SqT.of hp, rfl, D, vs, _, _, rfl, rfl, SqT.of hD, ha, ?_⟩
    refine ⟨a, _, rfl, SqT.of hda, rfl, ⟨_, _, rfl, _, _, rfl, _, _, rfl, _, _, rfl, rfl, ?_⟩⟩
    refine ⟨_, rfl, p, _, _, _, rfl, rfl, SqT.of hp, rfl, rfl, _, rfl, ite2 (fun c => ?_) (fun c => ?_)⟩
    · have c2 : st.2 = 0 := by simpa using c
      refine ⟨_, rfl, _, rfl, _, rfl, _, rfl, (by decide : 4 ≤ sizeLine), fun q hq => ?_⟩
      have k := k q hq
      unfold gate at k
      rw [if_pos c2] at k
      exact k
    · have c2 : ¬ st.2 = 0 := fun z => c (by rw [z]; rfl)
      refine ⟨_, rfl, _, rfl, _, rfl, _, rfl, (by decide : 4 ≤ sizeLine), fun q hq => ?_⟩
      have k := k q hq
      unfold gate at k
      rw [if_neg c2] at k
      exact k
end
end K19

set_option Elab.async false
set_option linter.all false
set_option maxRecDepth 100000
set_option maxHeartbeats 4000000
/-! Numbers: looks, divisors, multiples, sizes; some things in a drawn order. -/
namespace K19
open PySem L2

/-- is_number, _law_is_whole -/
def spWhole : Sp := fun vs H Q _ => (∃ i, vs = [.int i] ∧ Q (.bl true) H) ∨ ∃ b, vs = [.bl b] ∧ Q (.bl false) H
def spBelow : Sp := fun vs H Q _ => ∃ v n : Int, vs = [.int v, .int n] ∧ 0 ≤ v ∧ v < n ∧ Q (.bl true) H
def spTruth : Sp := fun vs H Q _ => ∃ a b : Bool, vs = [.bl a, .bl b] ∧ Q (.bl (decide (a = b))) H
def spCommon : Sp := fun vs H Q _ => ∃ a b : Int, vs = [.int a, .int b] ∧ Q (.int (Nat.gcd a.natAbs b.natAbs : Nat)) H
def spMultiple : Sp := fun vs H Q _ => ∃ (l : Addr) (a b : Int), vs = [.ref l] ∧ H l = some (.lst [.int a, .int b]) ∧ 1 ≤ a ∧ a ≤ 6 ∧ 1 ≤ b ∧ b ≤ 6 ∧ ∀ m : Int, 1 ≤ m → m ≤ 36 → a ∣ m → b ∣ m → Q (.int m) H
def spSize : Sp := fun vs H Q _ => ∃ (d g c : Addr) (n : Nat), vs = [.ref d] ∧ StAt d g c n H ∧ n + 2 ≤ 1000000 ∧ ∀ (H' : Hp) (z : Int), Kp d g H H' → StAt d g c (n + 2) H' → z ≠ 0 → -12 ≤ z → z ≤ 12 → Q (.int z) H'

theorem if_true_of' {c : Bool} {A B : Prop} (hc : c = true) (h : A) : if c = true then A else B := by
  rw [if_pos hc]
  exact h
theorem if_false_of' {c : Bool} {A B : Prop} (hc : c = false) (h : B) : if c = true then A else B := by
  rw [if_neg (by rw [hc]; exact Bool.false_ne_true)]
  exact h
section
variable {P : Program} {w : World} {K : PySem.W.Frag} {mg : Str → Option Value} {base : Heap} {f : Addr} {fd : FuncData}
theorem kit_ii : PySem.W.kitOne K (.type "int") (.type "int") = some true := kit_ty (by decide +kernel)
theorem kit_ib : PySem.W.kitOne K (.type "int") (.type "bool") = some false := kit_ty (by decide +kernel)
theorem kit_bi : PySem.W.kitOne K (.type "bool") (.type "int") = some true := kit_ty (by decide +kernel)
theorem kit_bb : PySem.W.kitOne K (.type "bool") (.type "bool") = some true := kit_ty (by decide +kernel)

theorem ok_is_number (F : Fun K "is_number" "is_number" s_p_is_number f fd) (B : Blt mg) : FnOk P w K mg base CX0 1 f fd a_p_is_number spWhole := by
  refine F.ok sc_p_is_number (fun vs H Q E h => ?_) (fun cdv A outer s H vs Q E hr h => ?_)
  · rcases h with ⟨i, rfl, _⟩ | ⟨i, rfl, _⟩ <;> rfl
  · refine ⟨_, pss_one (ps_ret (pe_and (pe_callB call_isi (by rfl) B.isinstance (by decide +kernel) (pa_cons (pv 0) (pa_cons (pe_bltn (v := .ty "int") (by rfl) B.int (by decide +kernel) rfl) pa_nil)))
      (pe_one (pe_not (pe_callB call_isi (by rfl) B.isinstance (by decide +kernel) (pa_cons (pv 0) (pa_cons (pe_bltn (v := .ty "bool") (by rfl) B.bool (by decide +kernel) rfl) pa_nil))))))), ?_⟩
    rcases h with ⟨i, rfl, k⟩ | ⟨i, rfl, k⟩
    · exact ⟨_, rfl, _, _, _, _, _, rfl, .ty _, .base (.int i), kit_ii, _, rfl, iteT ⟨_, rfl, _, _, _, _, _, rfl, .ty _, .base (.int i), kit_ib, _, rfl, k⟩⟩
    · exact ⟨_, rfl, _, _, _, _, _, rfl, .ty _, .base (.bl i), kit_bi, _, rfl, iteT ⟨_, rfl, _, _, _, _, _, rfl, .ty _, .base (.bl i), kit_bb, _, rfl, k⟩⟩
theorem ok_is_whole (F : Fun K "_law_is_whole" "_law_is_whole" s_is_whole f fd) (B : Blt mg) : FnOk P w K mg base CX0 1 f fd a_is_whole spWhole := by
  refine F.ok sc_is_whole (fun vs H Q E h => ?_) (fun cdv A outer s H vs Q E hr h => ?_)
  · rcases h with ⟨i, rfl, _⟩ | ⟨i, rfl, _⟩ <;> rfl
  · refine ⟨_, pss_one (ps_ret (pe_and (pe_callB call_isi (by rfl) B.isinstance (by decide +kernel) (pa_cons (pv 0) (pa_cons (pe_bltn (v := .ty "int") (by rfl) B.int (by decide +kernel) rfl) pa_nil)))
      (pe_one (pe_not (pe_callB call_isi (by rfl) B.isinstance (by decide +kernel) (pa_cons (pv 0) (pa_cons (pe_bltn (v := .ty "bool") (by rfl) B.bool (by decide +kernel) rfl) pa_nil))))))), ?_⟩
    rcases h with ⟨i, rfl, k⟩ | ⟨i, rfl, k⟩
    · exact ⟨_, rfl, _, _, _, _, _, rfl, .ty _, .base (.int i), kit_ii, _, rfl, iteT ⟨_, rfl, _, _, _, _, _, rfl, .ty _, .base (.int i), kit_ib, _, rfl, k⟩⟩
    · exact ⟨_, rfl, _, _, _, _, _, rfl, .ty _, .base (.bl i), kit_bi, _, rfl, iteT ⟨_, rfl, _, _, _, _, _, rfl, .ty _, .base (.bl i), kit_bb, _, rfl, k⟩⟩
theorem ok_is_below (F : Fun K "is_below" "is_below" s_p_is_below f fd) (DN : DefAt P w K mg base CX0 1 "is_number" a_p_is_number spWhole) : FnOk P w K mg base CX0 2 f fd a_p_is_below spBelow := by
  refine F.ok sc_p_is_below (fun vs H Q E h => ?_) (fun cdv A outer s H vs Q E hr h => ?_)
  · obtain ⟨v, n, rfl, _⟩ := h
    rfl
  · obtain ⟨v, n, rfl, h0, h1, k⟩ := h
    refine ⟨_, pss_one (ps_ret (pe_and (pe_def DN hr rfl (pa_cons (pv 0) pa_nil)) (pe_one (pe_chain op_le op_lt pe_int (pv 0) (pv 1))))), ?_⟩
    refine ⟨_, rfl, .inl ⟨_, rfl, _, rfl, iteT ⟨_, rfl, _, _, rfl, rfl, _, rfl, ?_⟩⟩⟩
    rw [decide_eq_true h0]
    refine iteT ⟨_, rfl, _, _, rfl, rfl, ?_⟩
    show Q (.bl (decide (v < n))) H
    rw [decide_eq_true h1]
    exact k
theorem ok_is_truth (F : Fun K "_law_is_truth" "_law_is_truth" s_is_truth f fd) : FnOk P w K mg base CX0 1 f fd a_is_truth spTruth := by
  refine F.ok sc_is_truth (fun vs H Q E h => ?_) (fun cdv A outer s H vs Q E hr h => ?_)
  · obtain ⟨v, n, rfl, _⟩ := h
    rfl
  · obtain ⟨a, b, rfl, k⟩ := h
    refine ⟨_, pss_one (ps_ret (pe_ifExp (pt_val (pv 1)) (pe_cmpR op_is_bl (pv 0) pe_bl (nomark _)) (pe_cmpR op_is_bl (pv 0) pe_bl (nomark _)))), ?_⟩
    refine ⟨_, rfl, b, rfl, ?_⟩
    cases b with
    | true => exact iteT ⟨_, rfl, _, _, rfl, rfl, k⟩
    | false => exact iteF ⟨_, rfl, _, _, rfl, rfl, k⟩

theorem abs_nat (a : Int) : (if a < 0 then -a else a) = (a.natAbs : Int) := by
  split <;> omega
theorem ok_common (F : Fun K "_law_common" "_law_common" s_common f fd) (B : Blt mg) : FnOk P w K mg base CX0 1 f fd a_common spCommon := by
  refine F.ok sc_common (fun vs H Q E h => ?_) (fun cdv A outer s H vs Q E hr h => ?_)
  · obtain ⟨v, n, rfl, _⟩ := h
    rfl
  · obtain ⟨a, b, rfl, k⟩ := h
    refine ⟨_, pss_cons (ps_par (i := 2) (j := 3) (by rfl) sc_common.nd rfl rfl (by decide) rfl rfl (pa_cons (pe_callB call_abs (by rfl) B.abs (by decide +kernel) (pa_cons (pv 0) pa_nil)) (pa_cons (pe_callB call_abs (by rfl) B.abs (by decide +kernel) (pa_cons (pv 1) pa_nil)) pa_nil)) (by rfl))
      (pss_cons (ps_while PassesOwn.never (pt_cmpR op_ne (pv 3) pe_int (nomark _))
        (pss_one (ps_par (i := 2) (j := 3) (by rfl) sc_common.nd rfl rfl (by decide) rfl rfl (pa_cons (pv 3) (pa_cons (pe_op op_modN (pe_callTy call_int1 (by rfl) B.int (by decide +kernel) (pa_cons (pv 2) pa_nil)) (pv 3)) pa_nil)) (by rfl))))
      (pss_one (ps_ret (pv 2)))), ?_⟩
    refine ⟨_, rfl, _, rfl, _, rfl, _, rfl, _, _, rfl, ?_⟩
    rw [abs_nat, abs_nat]
    refine ⟨fun m σ H' => H' = H ∧ ∃ x y : Nat, m = y ∧ σ = [some (.int a), some (.int b), some (.int (x : Int)), some (.int (y : Int))] ∧ Nat.gcd x y = Nat.gcd a.natAbs b.natAbs, ⟨_, rfl, a.natAbs, b.natAbs, rfl, rfl, rfl⟩, ?_⟩
    rintro m σ H' ⟨rfl, x, y, em, rfl, hg⟩
    refine ⟨_, rfl, rfl, _, rfl, ?_⟩
    by_cases c : (y : Int) = 0
    · have hy : y = 0 := by omega
      subst hy
      refine if_false_of' ?_ ?_
      · rfl
      · rw [Nat.gcd_zero_right] at hg
        exact ⟨_, rfl, by rw [hg]; exact k⟩
    · refine if_true_of' (by simpa using c) ?_
      refine ⟨fun σ' H'' => ∃ m', m' < m ∧ H'' = H' ∧ ∃ x y : Nat, m' = y ∧ σ' = [some (.int a), some (.int b), some (.int (x : Int)), some (.int (y : Int))] ∧ Nat.gcd x y = Nat.gcd a.natAbs b.natAbs, fun _ _ z => z, ?_⟩
      refine ⟨_, rfl, _, rfl, .inl ⟨_, rfl, _, rfl, _, _, rfl, rfl, c, _, _, rfl, ?_⟩⟩
      have e : Int.fmod (x : Int) (y : Int) = ((x % y : Nat) : Int) := by
        rw [Int.fmod_eq_emod_of_nonneg _ (by omega)]
        rfl
      refine ⟨x % y, by rw [em]; exact Nat.mod_lt _ (by omega), rfl, y, x % y, rfl, by rw [← e]; rfl, ?_⟩
      rw [← hg, Nat.gcd_comm y, ← Nat.gcd_rec, Nat.gcd_comm]

theorem ok_size (F : Fun K "_law_size" "_law_size" s_size f fd) (DP : DefAt P w K mg base CX0 3 "_law_pick" a_pick spPick) : FnOk P w K mg base CX0 4 f fd a_size spSize := by
  refine F.ok sc_size (fun vs H Q E h => ?_) (fun cdv A outer s H vs Q E hr h => ?_)
  · obtain ⟨d, g, c, n, rfl, _⟩ := h
    rfl
  · obtain ⟨d, g, c, n, rfl, hS, hn, k⟩ := h
    refine ⟨_, pss_cons (ps_set (i := 1) sc_size.nd rfl (Or.inl rfl) (pe_def DP hr rfl (pa_cons (pv 0) (pa_cons (pe_lst (pa_cons pe_int (pa_cons pe_int (pa_cons pe_int (pa_cons pe_int (pa_cons pe_int (pa_cons pe_int (pa_cons pe_int (pa_cons pe_int (pa_cons pe_int (pa_cons pe_int (pa_cons pe_int (pa_cons pe_int pa_nil))))))))))))) pa_nil))))
      (pss_one (ps_ret (pe_op op_mul (pv 1) (pe_def DP hr rfl (pa_cons (pv 0) (pa_cons (pe_lst (pa_cons pe_int (pa_cons pe_int (pa_cons pe_int (pa_cons (pe_un un_neg pe_int) pa_nil))))) pa_nil)))))), ?_⟩
    refine ⟨_, rfl, (by decide : 12 ≤ sizeLine), fun p hp => ?_⟩
    have e1 := same_upd (o := .lst (([2, 3, 1, 4, 6, 2, 1, 3, 5, 8, 9, 12] : List Int).map V.int)) hp
    refine ⟨d, g, c, p, n, ([2, 3, 1, 4, 6, 2, 1, 3, 5, 8, 9, 12] : List Int).map V.int, rfl, hS.same e1, by omega, upd_same, (hS.ned hp).2, by simp, by decide, fun H2 x K2 S2 hx => ?_⟩
    obtain ⟨z, hz, rfl⟩ := List.mem_map.mp hx
    have hz2 : z ≠ 0 ∧ 0 ≤ z ∧ z ≤ 12 := (by decide : ∀ z ∈ ([2, 3, 1, 4, 6, 2, 1, 3, 5, 8, 9, 12] : List Int), z ≠ 0 ∧ 0 ≤ z ∧ z ≤ 12) z hz
    have K2' : Kp d g H H2 := (kp_of e1).trans K2
    refine ⟨_, rfl, _, rfl, _, rfl, (by decide : 4 ≤ sizeLine), fun p2 hp2 => ?_⟩
    have e3 := same_upd (o := .lst (([1, 1, 1, -1] : List Int).map V.int)) hp2
    refine ⟨d, g, c, p2, n + 1, ([1, 1, 1, -1] : List Int).map V.int, rfl, S2.same e3, by omega, upd_same, (S2.ned hp2).2, by simp, by decide, fun H4 x K4 S4 hx => ?_⟩
    obtain ⟨y, hy, rfl⟩ := List.mem_map.mp hx
    have hy2 : y = 1 ∨ y = -1 := (by decide : ∀ z ∈ ([1, 1, 1, -1] : List Int), z = 1 ∨ z = -1) y hy
    refine ⟨_, _, rfl, rfl, .inr ⟨by omega, by omega⟩, ?_⟩
    refine k H4 _ ((K2'.trans (kp_of e3)).trans K4) S4 ?_ ?_ ?_
    · rcases hy2 with e | e <;> subst e <;> omega
    · rcases hy2 with e | e <;> subst e <;> omega
    · rcases hy2 with e | e <;> subst e <;> omega
theorem lcm_laws {a b : Int} (ha : 1 ≤ a) (ha6 : a ≤ 6) (hb : 1 ≤ b) (hb6 : b ≤ 6) : 1 ≤ a * b / ((Nat.gcd a.natAbs b.natAbs : Nat) : Int) ∧ a * b / ((Nat.gcd a.natAbs b.natAbs : Nat) : Int) ≤ 36 ∧ a ∣ a * b / ((Nat.gcd a.natAbs b.natAbs : Nat) : Int) ∧ b ∣ a * b / ((Nat.gcd a.natAbs b.natAbs : Nat) : Int) := by
  have c : (a = 1 ∨ a = 2 ∨ a = 3 ∨ a = 4 ∨ a = 5 ∨ a = 6) := by omega
  have c2 : (b = 1 ∨ b = 2 ∨ b = 3 ∨ b = 4 ∨ b = 5 ∨ b = 6) := by omega
  rcases c with e | e | e | e | e | e <;> subst e <;> rcases c2 with e | e | e | e | e | e <;> subst e <;> decide
theorem ok_multiple (F : Fun K "_law_multiple" "_law_multiple" s_multiple f fd) (B : Blt mg) (DC : DefAt P w K mg base CX0 1 "_law_common" a_common spCommon) : FnOk P w K mg base CX0 2 f fd a_multiple spMultiple := by
  refine F.ok sc_multiple (fun vs H Q E h => ?_) (fun cdv A outer s H vs Q E hr h => ?_)
  · obtain ⟨l, a, b, rfl, _⟩ := h
    rfl
  · obtain ⟨l, a, b, rfl, hl, a1, a6, b1, b6, k⟩ := h
    refine ⟨_, pss_cons (ps_set (i := 1) sc_multiple.nd rfl (Or.inl rfl) pe_int)
      (pss_cons (ps_for PassesOwn.never rfl (pi_list (pv 0)) (pg_name (i := 2) sc_multiple.nd rfl (Or.inl rfl))
        (pss_one (ps_set (i := 1) sc_multiple.nd rfl (Or.inl rfl) (pe_op op_fdiv (pe_op op_mul (pv 1) (pe_callB call_abs (by rfl) B.abs (by decide +kernel) (pa_cons (pv 2) pa_nil))) (pe_def DC hr rfl (pa_cons (pv 1) (pa_cons (pv 2) pa_nil)))))))
      (pss_one (ps_ret (pv 1)))), ?_⟩
    refine ⟨_, rfl, l, rfl, ⟨_, SqL.of hl⟩, for_list (K := K) (a := l) (xs := [V.int a, V.int b]) (fun i σ H' => H' = H ∧ ∃ (v : Option V) (y : Int), σ = [some (.ref l), some (.int y), v] ∧ ((i = 0 ∧ y = 1) ∨ (i = 1 ∧ y = a) ∨ (i = 2 ∧ y = a * b / ((Nat.gcd a.natAbs b.natAbs : Nat) : Int)))) ⟨rfl, none, 1, rfl, .inl ⟨rfl, rfl⟩⟩ (fun i σ H' _ ⟨e, _⟩ => by rw [e]; exact SqL.of hl) ?_ ?_⟩
    · rintro i x σ H' hx ⟨rfl, v, y, rfl, hy⟩
      rcases hy with ⟨rfl, rfl⟩ | ⟨rfl, rfl⟩ | ⟨rfl, _⟩
      · obtain rfl : V.int a = x := Option.some.inj hx
        refine ⟨_, rfl, _, rfl, _, rfl, _, _, rfl, rfl, .inl ⟨by decide, by decide⟩, _, rfl, _, rfl, _, _, rfl, _, _, rfl, rfl, ?_, rfl, _, _, rfl, .inr (.inl ⟨rfl, ?_⟩)⟩
        · show 0 < ((Nat.gcd (1 : Int).natAbs a.natAbs : Nat) : Int) ∧ ((Nat.gcd (1 : Int).natAbs a.natAbs : Nat) : Int) < 1073741824
          rw [show (1 : Int).natAbs = 1 from rfl, Nat.gcd_one_left]
          decide
        · show 1 * (if a < 0 then -a else a) / ((Nat.gcd (1 : Int).natAbs a.natAbs : Nat) : Int) = a
          rw [show (1 : Int).natAbs = 1 from rfl, Nat.gcd_one_left, abs_nat, Int.one_mul]
          omega
      · obtain rfl : V.int b = x := Option.some.inj hx
        have hg0 : 0 < Nat.gcd y.natAbs b.natAbs := Nat.gcd_pos_of_pos_left _ (by omega)
        have hg1 : Nat.gcd y.natAbs b.natAbs ≤ y.natAbs := Nat.gcd_le_left _ (by omega)
        refine ⟨_, rfl, _, rfl, _, rfl, _, _, rfl, rfl, .inl ⟨by omega, by omega⟩, _, rfl, _, rfl, _, _, rfl, _, _, rfl, rfl, ⟨by omega, by omega⟩, rfl, _, _, rfl, .inr (.inr ⟨rfl, ?_⟩)⟩
        show y * (if b < 0 then -b else b) / ((Nat.gcd y.natAbs b.natAbs : Nat) : Int) = y * b / ((Nat.gcd y.natAbs b.natAbs : Nat) : Int)
        rw [if_neg (by omega)]
      · cases hx
    · rintro σ H' ⟨rfl, v, y, rfl, hy⟩
      rcases hy with ⟨e, _⟩ | ⟨e, _⟩ | ⟨_, rfl⟩
      · cases e
      · cases e
      · obtain ⟨h1, h2, h3, h4⟩ := lcm_laws a1 a6 b1 b6
        exact ⟨_, rfl, k _ h1 h2 h3 h4⟩
end
end K19

set_option Elab.async false
set_option linter.all false
set_option maxRecDepth 100000
set_option maxHeartbeats 4000000
/-! Some things in a drawn order. -/
namespace K19
open PySem L2

theorem perm_take {α : Type} : ∀ {l : List α} {i : Nat} {x : α}, l[i]? = some x → (l.eraseIdx i ++ [x]).Perm l
  | [], i, x, h => by simp at h
  | a :: l, 0, x, h => by
    have e : a = x := Option.some.inj h
    subst e
    exact List.perm_append_comm
  | a :: l, i + 1, x, h => (perm_take (l := l) (i := i) (by simpa using h)).cons a
/-- a tuple of ints -/
def IsTI (H : Hp) (v : V) : Prop := ∃ (a : Addr) (ns : List Int), v = .ref a ∧ H a = some (.tup (ns.map V.int))
theorem IsTI.tk {H H' : Hp} {v : V} (h : IsTI H v) (k : TK H H') : IsTI H' v := by
  obtain ⟨a, ns, e, h⟩ := h
  exact ⟨a, ns, e, k.1 _ _ h⟩
theorem IsDoor.ti {H : Hp} {v : V} {d : Dr} (h : IsDoor H v d) : IsTI H v := by
  obtain ⟨a, e, h⟩ := h
  exact ⟨a, [d.n, d.f, d.r, d.s], e, h⟩
theorem IsStp.ti {H : Hp} {v : V} {d : Stp} (h : IsStp H v d) : IsTI H v := by
  obtain ⟨a, e, h⟩ := h
  exact ⟨a, [d.1, d.2], e, h⟩
theorem dp_tis {K : PySem.W.Frag} {H : Hp} : ∀ {xs : List V}, (∀ x ∈ xs, IsTI H x) → ∃ ds : List PyData, DpAll K H xs ds ∧ PyData.canLayAll0 ds = true ∧ PyData.depthAll ds ≤ 1 ∧ PyData.eqvAll ds [] = xs.isEmpty
  | [], _ => ⟨[], .nil, rfl, Nat.zero_le _, rfl⟩
  | x :: xs, h => by
    obtain ⟨ds, h1, h2, h3, _⟩ := dp_tis (xs := xs) fun y hy => h y (List.mem_cons_of_mem _ hy)
    obtain ⟨a, ns, rfl, ha⟩ := h x List.mem_cons_self
    refine ⟨.tuple (ns.map PyData.int) :: ds, .cons (.tup (SqT.of ha) (dp_ints ns)) h1, ?_, ?_, rfl⟩
    · show (PyData.canLayAll0 (ns.map PyData.int) && PyData.canLayAll0 ds) = true
      rw [can_ints, h2]
      rfl
    · show max (PyData.depthAll (ns.map PyData.int) + 1) (PyData.depthAll ds) ≤ 1
      rw [depth_ints]
      omega
theorem shaped_of {ds : List PyData} (h : PyData.canLayAll0 ds = true) (h2 : PyData.depthAll ds ≤ 60) : SeqAt.shaped (.list ds) = true ∧ SeqAt.shaped (.tuple ds) = true := by
  have e : (PyData.canLayAll0 ds && decide (PyData.depthAll ds + 1 ≤ 64)) = true := by
    rw [h, decide_eq_true (by omega)]
    rfl
  exact ⟨e, e⟩

/-- what was new may be written -/
theorem kp_write {d g p : Addr} {H H' : Hp} {o : HO} (k : Kp d g H H') (hp : H p = none) : Kp d g H (upd H' p o) := fun b u h1 h2 e => by
  rw [upd_ne (ne_of_none e hp)]
  exact k b u h1 h2 e
theorem same_write {p : Addr} {H H' : Hp} {o : HO} (k : Same H H') (hp : H p = none) : Same H (upd H' p o) := fun b u e => by
  rw [upd_ne (ne_of_none e hp)]
  exact k b u e
/-- _law_mixed(state, several) -/
def spMixed (K : PySem.W.Frag) : Sp := fun vs H Q _ => ∃ (d g c a : Addr) (n : Nat) (xs : List V), vs = [.ref d, .ref a] ∧ StAt d g c n H ∧ n + xs.length ≤ 1000000 ∧ SqL K H a xs ∧ xs.length ≤ 100 ∧ (∀ x ∈ xs, IsTI H x) ∧
  ∀ (H' : Hp) (q : Addr) (ys : List V), Kp d g H H' → StAt d g c (n + xs.length) H' → H q = none → H' q = some (.lst ys) → q ≠ g → ys.Perm xs → Q (.ref q) H'

section
variable {P : Program} {w : World} {K : PySem.W.Frag} {mg : Str → Option Value} {base : Heap} {f : Addr} {fd : FuncData}
theorem ok_mixed (F : Fun K "_law_mixed" "_law_mixed" s_mixed f fd) (B : Blt mg) (DD : DefAt P w K mg base CX0 2 "_law_draw" a_draw spDraw) : FnOk P w K mg base CX0 3 f fd a_mixed (spMixed K) := by
  refine F.ok sc_mixed (fun vs H Q E h => ?_) (fun cdv A outer s H vs Q E hr h => ?_)
  · obtain ⟨d, g, c, a, n, xs, rfl, _⟩ := h
    rfl
  · obtain ⟨d, g, c, a, n, xs, rfl, hS, hn, hX, hl, hti, k⟩ := h
    refine ⟨_, pss_cons (ps_par (i := 2) (j := 3) (by rfl) sc_mixed.nd rfl rfl (by decide) rfl rfl (pa_cons (pe_callTy call_list_of (by rfl) B.list (by decide +kernel) (pa_cons (pv 1) pa_nil)) (pa_cons (pe_lst pa_nil) pa_nil)) (by rfl))
      (pss_cons (ps_while PassesOwn.never (pt_cmpR (op_neD hr.units) (pv 2) (pe_lst pa_nil) (nomark _))
        (pss_one (ps_expr (pe_bm PySem.F.plainAttrs_list PySem.F.slot_list_append PySem.F.type_list_append mt_append (pv 3) (pa_cons
          (pe_bm PySem.F.plainAttrs_list PySem.F.slot_list_pop PySem.F.type_list_pop mt_popAt (pv 2) (pa_cons (pe_def DD hr rfl (pa_cons (pv 0) (pa_cons (pe_callB call_len_seq (by rfl) B.len PySem.boot_len (pa_cons (pv 2) pa_nil)) pa_nil))) pa_nil)) pa_nil)))))
      (pss_one (ps_ret (pv 3)))), ?_⟩
    refine ⟨_, rfl, a, xs, rfl, .inl hX, fun p hp => ?_⟩
    have e1 := same_upd (o := .lst xs) hp
    have hp1 : (upd H p (.lst xs)) p = some (.lst xs) := upd_same
    have S1 := hS.same e1
    generalize upd H p (.lst xs) = H1 at e1 hp1 S1 ⊢
    refine ⟨(by decide : 0 ≤ sizeLine), fun q hq => ?_⟩
    have e2 := same_upd (o := .lst []) hq
    have hq2 : (upd H1 q (.lst [])) q = some (.lst []) := upd_same
    have hp2 := e2 _ _ hp1
    have npq : p ≠ q := ne_of_none hp1 hq
    have S2 := S1.same e2
    have e12 : Same H (upd H1 q (.lst [])) := e1.trans e2
    have pg := (hS.ned hp).2
    have qg := (S1.ned hq).2
    have pc : p ≠ c ∧ q ≠ c := by
      obtain ⟨gs, cs, l, t, _, _, _, _, _, hc⟩ := hS
      exact ⟨(ne_of_none hc hp).symm, (ne_of_none (e1 _ _ hc) hq).symm⟩
    have pd := (hS.ned hp).1
    have qd := (S1.ned hq).1
    have hqH : H q = none := e1.free hq
    generalize upd H1 q (.lst []) = H2 at e2 hq2 hp2 S2 e12 ⊢
    refine ⟨_, _, rfl, ?_⟩
    refine ⟨fun m σ H' => ∃ ls fs : List V, m = ls.length ∧ σ = [some (.ref d), some (.ref a), some (.ref p), some (.ref q)] ∧ Kp d g H H' ∧ StAt d g c (n + fs.length) H' ∧ H' p = some (.lst ls) ∧ H' q = some (.lst fs) ∧ (ls ++ fs).Perm xs, ⟨_, xs, [], rfl, rfl, kp_of e12, S2, hp2, hq2, by rw [List.append_nil]⟩, ?_⟩
    rintro m σ H3 ⟨ls, fs, em, rfl, K3, S3, hp3, hq3, hperm⟩
    have hlen : ls.length + fs.length = xs.length := by rw [← List.length_append]; exact hperm.length_eq
    have tk3 : TK H H3 := hS.tk K3
    have ti3 : ∀ x ∈ ls, IsTI H3 x := fun x hx => (hti x (hperm.mem_iff.mp (List.mem_append_left _ hx))).tk tk3
    refine ⟨_, rfl, (by decide : 0 ≤ sizeLine), fun t ht => ?_⟩
    have e4 := same_upd (o := .lst []) ht
    have ht4 : (upd H3 t (.lst [])) t = some (.lst []) := upd_same
    obtain ⟨ds, d1, d2, d3, d4⟩ := dp_tis (K := K) (xs := ls) (H := upd H3 t (.lst [])) fun x hx => (ti3 x hx).tk (tk_of e4)
    have hp4 := e4 _ _ hp3
    have hq4 := e4 _ _ hq3
    have S4 := S3.same e4
    have K4 : Kp d g H (upd H3 t (.lst [])) := K3.trans (kp_of e4)
    generalize upd H3 t (.lst []) = H4 at e4 ht4 d1 hp4 hq4 S4 K4 ⊢
    refine ⟨.list ds, .list [], .lst (SqL.of hp4) d1, dp_nil ht4, (shaped_of d2 (by omega)).1, rfl, _, rfl, ?_⟩
    show if (!PyData.eqvAll ds []) = true then _ else _
    rw [d4]
    cases ls with
    | nil =>
      refine iteF ?_
      refine ⟨_, rfl, k H4 q fs K4 ?_ hqH hq4 qg hperm⟩
      rw [List.length_nil] at hlen
      rw [show xs.length = fs.length by omega]
      exact S4
    | cons l ls =>
      refine iteT ?_
      refine ⟨fun σ' H' => ∃ m', m' < m ∧ ∃ ls fs : List V, m' = ls.length ∧ σ' = [some (.ref d), some (.ref a), some (.ref p), some (.ref q)] ∧ Kp d g H H' ∧ StAt d g c (n + fs.length) H' ∧ H' p = some (.lst ls) ∧ H' q = some (.lst fs) ∧ (ls ++ fs).Perm xs, fun _ _ z => z, ?_⟩
      refine ⟨_, rfl, .inl ⟨rfl, _, SqL.of hq4⟩, _, rfl, .inl ⟨rfl, _, SqL.of hp4⟩, _, rfl, _, rfl, p, _, rfl, .inl (SqL.of hp4), d, g, c, n + fs.length, _, rfl, S4, by omega, ?_, ?_, fun H5 z K5 S5 z0 z1 => ?_⟩
      · rw [List.length_cons]
        omega
      · rw [List.length_cons] at hlen ⊢
        omega
      have hp5 := K5 _ _ pd pg hp4
      have hq5 := K5 _ _ qd qg hq4
      have hz : z.toNat < (l :: ls).length := by omega
      refine ⟨p, _, z, z.toNat, (l :: ls)[z.toNat], rfl, rfl, hp5, by omega, ?_, PySem.seqIndex_of z0 z1, List.getElem?_eq_getElem hz, ?_⟩
      · rw [List.length_cons] at z1 hlen
        omega
      have hq6 : (upd H5 p (.lst ((l :: ls).eraseIdx z.toNat))) q = some (.lst fs) := by rw [upd_ne npq.symm]; exact hq5
      have hfl : fs.length < sizeLine := Nat.lt_of_lt_of_le (show fs.length < 1000 by rw [List.length_cons] at hlen; omega) (by decide)
      refine ⟨q, fs, _, rfl, rfl, hq6, hfl, ls.length, by rw [em, List.length_cons]; exact Nat.lt_succ_self _, (l :: ls).eraseIdx z.toNat, fs ++ [(l :: ls)[z.toNat]], ?_, rfl, ?_, ?_, ?_, ?_, ?_⟩
      · rw [List.length_eraseIdx_of_lt hz]
        rfl
      · exact kp_write (kp_write (K4.trans K5) hp) hqH
      · rw [List.length_append, List.length_singleton, ← Nat.add_assoc]
        exact (S5.other hp5 pg pc.1).other hq6 qg pc.2
      · rw [upd_ne npq]
        exact upd_same
      · exact upd_same
      · have h1 : ((l :: ls).eraseIdx z.toNat ++ (fs ++ [(l :: ls)[z.toNat]])).Perm (((l :: ls).eraseIdx z.toNat ++ [(l :: ls)[z.toNat]]) ++ fs) := by
          rw [List.append_assoc]
          exact List.Perm.append_left _ List.perm_append_comm
        exact (h1.trans ((perm_take (List.getElem?_eq_getElem hz)).append_right fs)).trans hperm
end
end K19

set_option Elab.async false
set_option linter.all false
set_option maxRecDepth 100000
set_option maxHeartbeats 4000000
/-! Sides, steps from a room. -/
namespace K19
open PySem L2

def allStps : Nat → List Stp
  | 0 => []
  | m + 1 => allStps m ++ [((m : Int), 0), ((m : Int), 1)]
theorem mem_all {p : Stp} : ∀ {m : Nat}, p ∈ allStps m ↔ 0 ≤ p.1 ∧ p.1 < m ∧ (p.2 = 0 ∨ p.2 = 1)
  | 0 => by
    constructor
    · intro h
      cases h
    · rintro ⟨h1, h2, _⟩
      omega
  | m + 1 => by
    unfold allStps
    rw [List.mem_append, mem_all]
    constructor
    · rintro (⟨h1, h2, h3⟩ | h)
      · exact ⟨h1, by omega, h3⟩
      · rcases List.mem_cons.mp h with e | h
        · subst e
          exact ⟨by omega, by omega, .inl rfl⟩
        · rcases List.mem_cons.mp h with e | h
          · subst e
            exact ⟨by omega, by omega, .inr rfl⟩
          · cases h
    · rintro ⟨h1, h2, h3⟩
      by_cases c : p.1 < m
      · exact .inl ⟨h1, c, h3⟩
      · refine .inr ?_
        obtain ⟨i, j⟩ := p
        have e : i = m := by
          have h2' : i < ((m + 1 : Nat) : Int) := h2
          have c' : ¬ i < (m : Int) := c
          omega
        subst e
        rcases h3 with e | e
        · have e : j = 0 := e
          subst e
          exact List.mem_cons_self
        · have e : j = 1 := e
          subst e
          exact List.mem_cons_of_mem _ List.mem_cons_self
def stepsFrom (ds : List Dr) (r : Int) : List Stp := (allStps ds.length).filter fun p => decide ((gate ds p).n = r)
theorem mem_steps {ds : List Dr} {r : Int} {p : Stp} : p ∈ stepsFrom ds r ↔ okStp ds p ∧ (gate ds p).n = r := by
  unfold stepsFrom
  rw [List.mem_filter, mem_all, decide_eq_true_eq]
  exact Iff.rfl
theorem len_all (m : Nat) : (allStps m).length = 2 * m := by
  induction m with
  | zero => rfl
  | succ m ih =>
    unfold allStps
    rw [List.length_append, ih]
    show 2 * m + 2 = _
    omega
theorem len_steps (ds : List Dr) (r : Int) : (stepsFrom ds r).length ≤ 2 * ds.length := by
  unfold stepsFrom
  exact Nat.le_trans (List.length_filter_le _ _) (Nat.le_of_eq (len_all _))
theorem take_more {α : Type} : ∀ {l : List α} {i : Nat} {x : α}, l[i]? = some x → l.take (i + 1) = l.take i ++ [x]
  | [], i, x, h => by simp at h
  | a :: l, 0, x, h => by
    have e : a = x := Option.some.inj h
    subst e
    rfl
  | a :: l, i + 1, x, h => by
    show a :: l.take (i + 1) = a :: l.take i ++ [x]
    rw [take_more (l := l) (i := i) (by simpa using h)]
    rfl
theorem small_line {n : Nat} (h : n < 10000) : n < sizeLine := Nat.lt_of_lt_of_le h (by decide)

def spSides : Sp := fun vs H Q _ => ∃ m : Nat, vs = [.int (m : Int)] ∧ m ≤ 20 ∧ ∀ (H' : Hp) (q : Addr) (vs : List V), Same H H' → H q = none → H' q = some (.lst vs) → Paired (IsStp H') vs (allStps m) → Q (.ref q) H'
def spSteps : Sp := fun vs H Q _ => ∃ (D : Addr) (ds : List Dr) (r : Int), vs = [.ref D, .int r] ∧ IsDoors H D ds ∧ ds.length ≤ 20 ∧ ∀ (H' : Hp) (q : Addr) (vs : List V), Same H H' → H q = none → H' q = some (.lst vs) → Paired (IsStp H') vs (stepsFrom ds r) → Q (.ref q) H'

section
variable {P : Program} {w : World} {K : PySem.W.Frag} {mg : Str → Option Value} {base : Heap} {f : Addr} {fd : FuncData}
theorem ok_sides (F : Fun K "_law_sides" "_law_sides" s_sides f fd) (B : Blt mg) : FnOk P w K mg base CX0 1 f fd a_sides spSides := by
  refine F.ok sc_sides (fun vs H Q E h => ?_) (fun cdv A outer s H vs Q E hr h => ?_)
  · obtain ⟨m, rfl, _⟩ := h
    rfl
  · obtain ⟨m, rfl, hm, k⟩ := h
    refine ⟨_, pss_cons (ps_set (i := 1) sc_sides.nd rfl (Or.inl rfl) (pe_lst pa_nil))
      (pss_cons (ps_for PassesOwn.never rfl (pi_range1 rfl B.range (pa_cons (pv 0) pa_nil)) (pg_name (i := 2) sc_sides.nd rfl (Or.inl rfl))
        (pss_one (ps_set (i := 1) sc_sides.nd rfl (Or.inl rfl) (pe_op op_cat (pv 1) (pe_lst (pa_cons (pe_tup (pa_cons (pv 2) (pa_cons pe_int pa_nil))) (pa_cons (pe_tup (pa_cons (pv 2) (pa_cons pe_int pa_nil))) pa_nil)))))))
      (pss_one (ps_ret (pv 1)))), ?_⟩
    refine ⟨(by decide : 0 ≤ sizeLine), fun p hp => ?_⟩
    refine ⟨_, rfl, _, rfl, by omega, by omega, for_range (lo := 0) (n := (m : Int).toNat) (fun i σ H' => ∃ (q : Addr) (v : Option V) (vs : List V), σ = [some (.int (m : Int)), some (.ref q), v] ∧ Same H H' ∧ H q = none ∧ H' q = some (.lst vs) ∧ Paired (IsStp H') vs (allStps i))
      ⟨p, none, [], rfl, same_upd hp, hp, upd_same, .nil⟩ ?_ ?_⟩
    · rintro i σ H1 hi ⟨q, v, vs, rfl, e1, hq, hq1, hP⟩
      have hvl : vs.length = 2 * i := by rw [hP.length, len_all]
      refine ⟨_, rfl, _, rfl, (by decide : 2 ≤ sizeLine), fun t1 ht1 => ?_⟩
      have e2 := same_upd (o := .tup (stpV ((i : Int), 0))) ht1
      have g2 : (upd H1 t1 (.tup (stpV ((i : Int), 0)))) t1 = some (.tup (stpV ((i : Int), 0))) := upd_same
      have z1 : (0 : Int) + (i : Int) = (i : Int) := by omega
      rw [z1]
      show tCons _ _ _ (upd H1 t1 (.tup (stpV ((i : Int), 0)))) _
      generalize upd H1 t1 (.tup (stpV ((i : Int), 0))) = H2 at e2 g2 ⊢
      refine ⟨_, rfl, (by decide : 2 ≤ sizeLine), fun t2 ht2 => ?_⟩
      have e3 := same_upd (o := .tup (stpV ((i : Int), 1))) ht2
      have g3 : (upd H2 t2 (.tup (stpV ((i : Int), 1)))) t2 = some (.tup (stpV ((i : Int), 1))) := upd_same
      have g32 := e3 _ _ g2
      show tNil _ (upd H2 t2 (.tup (stpV ((i : Int), 1)))) _
      generalize upd H2 t2 (.tup (stpV ((i : Int), 1))) = H3 at e3 g3 g32 ⊢
      refine ⟨(by decide : 2 ≤ sizeLine), fun t3 ht3 => ?_⟩
      have e4 := same_upd (o := .lst [.ref t1, .ref t2]) ht3
      have g4 : (upd H3 t3 (.lst [.ref t1, .ref t2])) t3 = some (.lst [.ref t1, .ref t2]) := upd_same
      have e14 : Same H1 (upd H3 t3 (.lst [.ref t1, .ref t2])) := (e2.trans e3).trans e4
      have g34 := e4 _ _ g3
      have g24 := e4 _ _ g32
      generalize upd H3 t3 (.lst [.ref t1, .ref t2]) = H4 at e4 g4 e14 g34 g24 ⊢
      refine ⟨q, t3, vs, _, rfl, rfl, e14 _ _ hq1, g4, ?_, fun t5 ht5 => ?_⟩
      · show vs.length + 2 ≤ sizeLine
        exact Nat.le_of_lt (small_line (by omega))
      have e5 := same_upd (o := .lst (vs ++ [.ref t1, .ref t2])) ht5
      refine ⟨t5, _, _, rfl, (e1.trans e14).trans e5, (e1.trans e14).free ht5, upd_same, ?_⟩
      unfold allStps
      exact pair_app (stps_tk hP (tk_of (e14.trans e5))) (.cons ⟨t1, rfl, e5 _ _ g24⟩ (.cons ⟨t2, rfl, e5 _ _ g34⟩ .nil))
    · rintro σ H1 ⟨q, v, vs, rfl, e1, hq, hq1, hP⟩
      exact ⟨_, rfl, k _ q vs e1 hq hq1 hP⟩
end
end K19

set_option Elab.async false
set_option linter.all false
set_option maxRecDepth 100000
set_option maxHeartbeats 4000000
/-! The steps from a room. -/
namespace K19
open PySem L2

theorem stps_snoc {H H' : Hp} {vs : List V} {ps : List Stp} {v : V} {p : Stp} (h : Paired (IsStp H) vs ps) (k : TK H H') (hv : IsStp H' v p) : Paired (IsStp H') (vs ++ [v]) (ps ++ [p]) := pair_app (stps_tk h k) (.cons hv .nil)
theorem filter_more {l : List Stp} {i : Nat} {x : Stp} {q : Stp → Bool} (h : l[i]? = some x) : (l.take (i + 1)).filter q = (l.take i).filter q ++ if q x = true then [x] else [] := by
  rw [take_more h, List.filter_append]
  congr 1
  by_cases c : q x = true
  · rw [if_pos c, List.filter_cons, if_pos c]
    rfl
  · rw [if_neg c, List.filter_cons, if_neg c]
    rfl

section
variable {P : Program} {w : World} {K : PySem.W.Frag} {mg : Str → Option Value} {base : Heap} {f : Addr} {fd : FuncData}
theorem ok_steps (F : Fun K "_law_steps" "_law_steps" s_steps f fd) (B : Blt mg) (DS : DefAt P w K mg base CX0 1 "_law_sides" a_sides spSides) (DG : DefAt P w K mg base CX0 1 "_law_gate" a_gate spGate) : FnOk P w K mg base CX0 2 f fd a_steps spSteps := by
  refine F.ok sc_steps (fun vs H Q E h => ?_) (fun cdv A outer s H vs Q E hr h => ?_)
  · obtain ⟨D, ds, r, rfl, _⟩ := h
    rfl
  · obtain ⟨D, ds, r, rfl, hD, hl, k⟩ := h
    refine ⟨_, pss_cons (ps_setLc (i := 2) (own := [("_law_spot", 3), ("_law_turn", 4)]) (tt := tYes) rfl sc_steps.nd rfl rfl (sw_true rfl rfl rfl (by decide +kernel)) (pi_list (pe_def DS hr rfl (pa_cons (pe_callB call_len_seq (by rfl) B.len PySem.boot_len (pa_cons (pv 0) pa_nil)) pa_nil))) (blkOk_by (N := n_steps) (sc := defScope s_steps) (by decide +kernel))
        (fun _ _ _ _ _ => by exact (pgT K (n := 2) (pg_tup rfl (pgs_cons (pg_name (i := 3) sc_steps.nd rfl (Or.inl rfl)) (pgs_cons (pg_name (i := 4) sc_steps.nd rfl (Or.inl rfl)) pgs_nil))))) (fun _ _ _ _ _ => pts_nil) (fun _ _ _ _ _ => pe_tup (pa_cons (pv 3) (pa_cons (pv 4) pa_nil))))
      (pss_one (ps_ret (pe_lc (own := [("_law_step", 5)]) (g := gName 5) rfl sc_steps.nd (pi_list (pv 2)) (blkOk_by (N := n_steps) (sc := defScope s_steps) (by decide +kernel)) (fun _ _ _ _ _ => pg_name (i := 5) sc_steps.nd rfl (Or.inl rfl))
        (fun _ _ _ _ _ => by exact (pts_one (pt_cmpR op_eq (pe_ix (ixT K) (pe_def DG hr rfl (pa_cons (pv 0) (pa_cons (pv 5) pa_nil))) pe_int (fun _ _ => rfl)) (pv 1) (nomark _)))) (fun _ _ _ _ _ => pv 5)))), ?_⟩
    obtain ⟨vs0, hvs0, hP0⟩ := id hD
    refine ⟨_, rfl, D, _, rfl, .inr (SqT.of hvs0), ds.length, by rw [hP0.length]; rfl, by omega, fun H1 q vs e1 hq hq1 hP1 => ?_⟩
    have hvl : vs.length ≤ 40 := by rw [hP1.length, len_all]; omega
    refine ⟨q, rfl, ⟨_, SqL.of hq1⟩, fun L hL => lc_list (K := K) (a := q) (xs := vs) (fun i H' => Same H1 H' ∧ ∃ us : List V, H' L = some (.lst us) ∧ Paired (IsStp H') us ((allStps ds.length).take i))
      ⟨same_upd hL, [], upd_same, .nil⟩ (fun i H' _ ⟨e, _⟩ => SqL.of (e _ _ hq1)) ?_ ?_⟩
    · rintro i x H2 hx ⟨e2, us, hus, hP2⟩
      obtain ⟨st, hst, a, rfl, ha⟩ := pair_at' hP1 hx
      have hil := (List.getElem?_eq_some_iff.mp hx).1
      have hul : us.length ≤ i := by rw [hP2.length]; exact List.length_take_le _ _
      refine ⟨a, _, rfl, SqT.of (e2 _ _ ha), rfl, ⟨_, _, rfl, _, _, rfl, rfl, rfl, ?_⟩⟩
      refine ⟨_, rfl, _, rfl, (by decide : 2 ≤ sizeLine), fun t ht => ?_⟩
      have e3 := same_upd (o := .tup [V.int st.1, V.int st.2]) ht
      have g3 : (upd H2 t (.tup [V.int st.1, V.int st.2])) t = some (.tup [V.int st.1, V.int st.2]) := upd_same
      have hus3 := e3 _ _ hus
      generalize upd H2 t (.tup [V.int st.1, V.int st.2]) = H3 at e3 g3 hus3 ⊢
      refine ⟨us, hus3, small_line (by omega), same_write (e2.trans e3) hL, _, upd_same, ?_⟩
      rw [take_more hst]
      exact stps_snoc hP2 ((tk_of e3).trans (tk_lst hus3)) ⟨t, rfl, (tk_lst hus3).1 _ _ g3⟩
    · rintro H2 ⟨e2, us, hus, hP2⟩
      rw [hP1.length, List.take_length] at hP2
      have hul : us.length ≤ 40 := by rw [hP2.length, len_all]; omega
      have e12 := e1.trans e2
      have hLH : H L = none := e1.free hL
      refine ⟨_, rfl, L, rfl, ⟨_, SqL.of hus⟩, fun M hM => lc_list (K := K) (a := L) (xs := us) (fun i H' => Same H2 H' ∧ ∃ ws : List V, H' M = some (.lst ws) ∧ ws.length ≤ i ∧ Paired (IsStp H') ws (((allStps ds.length).take i).filter fun p => decide ((gate ds p).n = r)))
        ⟨same_upd hM, [], upd_same, Nat.le_refl _, .nil⟩ (fun i H' _ ⟨e, _⟩ => SqL.of (e _ _ hus)) ?_ ?_⟩
      · rintro i x H3 hx ⟨e3, ws, hws, hwl, hP3⟩
        obtain ⟨st, hst, a, rfl, ha⟩ := pair_at' hP2 hx
        have hil := (List.getElem?_eq_some_iff.mp hx).1
        have hok : okStp ds st := mem_all.mp (List.mem_of_getElem? hst)
        refine ⟨rfl, _, rfl, _, rfl, D, a, ds, st, rfl, hD.tk (tk_of (e12.trans e3)), e3 _ _ ha, hok, fun t ht => ?_⟩
        have e4 := same_upd (o := .tup (doorV (gate ds st))) ht
        have g4 : (upd H3 t (.tup (doorV (gate ds st)))) t = some (.tup (doorV (gate ds st))) := upd_same
        have hws4 := e4 _ _ hws
        have ha4 := e4 _ _ (e3 _ _ ha)
        generalize upd H3 t (.tup (doorV (gate ds st))) = H4 at e4 g4 hws4 ha4 ⊢
        refine ⟨t, _, _, _, rfl, rfl, SqT.of g4, rfl, _, rfl, rfl, _, rfl, ?_⟩
        have em := filter_more (q := fun p => decide ((gate ds p).n = r)) hst
        refine ite2 (fun c => ?_) (fun c => ?_)
        · have c2 : (gate ds st).n = r := by simpa using c
          refine ⟨_, rfl, ws, hws4, small_line (by omega), same_write (e3.trans e4) hM, _, upd_same, by rw [List.length_append, List.length_singleton]; omega, ?_⟩
          rw [em, if_pos (decide_eq_true c2)]
          exact stps_snoc hP3 ((tk_of e4).trans (tk_lst hws4)) ⟨a, rfl, (tk_lst hws4).1 _ _ ha4⟩
        · have c2 : ¬ (gate ds st).n = r := fun z => c (by rw [← z]; exact decide_eq_true rfl)
          refine ⟨e3.trans e4, ws, hws4, by omega, ?_⟩
          rw [em, if_neg (by rw [decide_eq_false c2]; exact Bool.false_ne_true), List.append_nil]
          exact stps_tk hP3 (tk_of e4)
      · rintro H3 ⟨e3, ws, hws, hwl, hP3⟩
        rw [hP2.length, List.take_length] at hP3
        exact k H3 M ws (e12.trans e3) (e12.free hM) hws hP3
end
end K19

set_option Elab.async false
set_option linter.all false
set_option maxRecDepth 100000
set_option maxHeartbeats 4000000
/-! Paths, what a search has found. -/
namespace K19
open PySem L2

def Path (ds : List Dr) : Int → Int → List Stp → Prop
  | a, b, [] => a = b
  | a, b, p :: ps => okStp ds p ∧ (gate ds p).n = a ∧ Path ds (gate ds p).r b ps
theorem path_snoc {ds : List Dr} {p : Stp} (hp : okStp ds p) : ∀ {ps : List Stp} {a : Int}, Path ds a (gate ds p).n ps → Path ds a (gate ds p).r (ps ++ [p])
  | [], a, h => ⟨hp, (show a = (gate ds p).n from h).symm, rfl⟩
  | q :: ps, a, ⟨h1, h2, h3⟩ => ⟨h1, h2, path_snoc hp h3⟩
theorem path_app {ds : List Dr} {b c : Int} {qs : List Stp} (hq : Path ds b c qs) : ∀ {ps : List Stp} {a : Int}, Path ds a b ps → Path ds a c (ps ++ qs)
  | [], a, h => by
    have e : a = b := h
    subst e
    exact hq
  | q :: ps, a, ⟨h1, h2, h3⟩ => ⟨h1, h2, path_app hq h3⟩
theorem path_ok {ds : List Dr} {b : Int} : ∀ {ps : List Stp} {a : Int}, Path ds a b ps → ∀ p ∈ ps, okStp ds p
  | [], a, h, p, hp => by cases hp
  | q :: ps, a, ⟨h1, h2, h3⟩, p, hp => by
    rcases List.mem_cons.mp hp with e | hp
    · subst e
      exact h1
    · exact path_ok h3 p hp

def okDr (R : Nat) (d : Dr) : Prop := 0 ≤ d.n ∧ d.n < R ∧ 0 ≤ d.r ∧ d.r < R ∧ d.f ≠ 0 ∧ d.s ≠ 0 ∧ -999 ≤ d.f ∧ d.f ≤ 999 ∧ -999 ≤ d.s ∧ d.s ≤ 999
def Conn (ds : List Dr) (R : Nat) : Prop := ∀ S : Int → Prop, (∀ d ∈ ds, S d.n ↔ S d.r) → ∀ a b : Int, 0 ≤ a → a < R → 0 ≤ b → b < R → S a → S b
structure House (R : Nat) (ds : List Dr) : Prop where
  r1 : 1 ≤ R
  r7 : R ≤ 7
  len : ds.length ≤ 11
  ok : ∀ d ∈ ds, okDr R d
  conn : Conn ds R
theorem getD_mem {α : Type} {l : List α} {i : Nat} {d : α} (h : i < l.length) : l.getD i d ∈ l := List.mem_of_getElem? (getD_at h)
theorem flip_ok {R : Nat} {d : Dr} (h : okDr R d) : okDr R d.flip := by
  obtain ⟨h1, h2, h3, h4, h5, h6, h7, h8, h9, h10⟩ := h
  exact ⟨h3, h4, h1, h2, h6, h5, h9, h10, h7, h8⟩
theorem gate_ok {R : Nat} {ds : List Dr} (h : ∀ d ∈ ds, okDr R d) {p : Stp} (hp : okStp ds p) : okDr R (gate ds p) := by
  have hm := h _ (getD_mem (d := ⟨0, 0, 0, 0⟩) (show p.1.toNat < ds.length by have := hp.1; have := hp.2.1; omega))
  unfold gate
  split
  · exact hm
  · exact flip_ok hm
/-- closed under steps: closed under doors -/
theorem closed_of {ds : List Dr} {S : Int → Prop} (h : ∀ r, S r → ∀ p ∈ stepsFrom ds r, S (gate ds p).r) : ∀ d ∈ ds, S d.n ↔ S d.r := fun d hd => by
  obtain ⟨i, hi, e⟩ := List.mem_iff_getElem.mp hd
  have eD : ds.getD (i : Int).toNat ⟨0, 0, 0, 0⟩ = d := by
    rw [List.getD_eq_getElem?_getD, Int.toNat_natCast, List.getElem?_eq_getElem hi, e]
    rfl
  have g0 : gate ds ((i : Int), 0) = d := by
    unfold gate
    rw [if_pos rfl]
    exact eD
  have g1 : gate ds ((i : Int), 1) = d.flip := by
    unfold gate
    rw [if_neg (show ¬ (1 : Int) = 0 by decide)]
    exact congrArg Dr.flip eD
  constructor
  · intro z
    have q := h d.n z ((i : Int), 0) (mem_steps.mpr ⟨⟨by omega, by show (i : Int) < _; omega, .inl rfl⟩, by rw [g0]⟩)
    rw [g0] at q
    exact q
  · intro z
    have q := h d.r z ((i : Int), 1) (mem_steps.mpr ⟨⟨by omega, by show (i : Int) < _; omega, .inr rfl⟩, by rw [g1]; rfl⟩)
    rw [g1] at q
    exact q

/-! ### dicts with int keys by their data -/
def KRel {α : Type} (R : V → α → Prop) : List (Key × V) → List (Int × α) → Prop := Paired fun kv e => kv.1 = Sum.inl e.1 ∧ R kv.2 e.2
section
variable {α : Type} {R R' : V → α → Prop} {kvs : List (Key × V)} {es : List (Int × α)}
theorem krel_mono (h : KRel R kvs es) (k : ∀ v x, R v x → R' v x) : KRel R' kvs es := L2.Paired.mapP h fun _ _ z => ⟨z.1, k _ _ z.2⟩
theorem krel_none {r : Int} : ∀ {kvs : List (Key × V)} {es : List (Int × α)}, KRel R kvs es → (∀ e ∈ es, e.1 ≠ r) → valV kvs (Sum.inl r) = none
  | _, _, .nil, _ => rfl
  | _, _, .cons (a := kv) (b := e) h t, n => by
    rw [valV_neg (fun z => n e List.mem_cons_self (by rw [h.1] at z; exact Sum.inl.inj z))]
    exact krel_none t fun e he => n e (List.mem_cons_of_mem _ he)
theorem krel_some {r : Int} : ∀ {kvs : List (Key × V)} {es : List (Int × α)}, KRel R kvs es → (∃ e ∈ es, e.1 = r) → ∃ v e, valV kvs (Sum.inl r) = some v ∧ e ∈ es ∧ e.1 = r ∧ R v e.2
  | _, _, .nil, ⟨e, he, _⟩ => by cases he
  | _, _, .cons (a := kv) (b := e) h t, ⟨e', he, er⟩ => by
    by_cases c : e.1 = r
    · exact ⟨kv.2, e, valV_pos (by rw [h.1, c]), List.mem_cons_self, c, h.2⟩
    · rw [valV_neg (fun z => c (by rw [h.1] at z; exact Sum.inl.inj z))]
      rcases List.mem_cons.mp he with q | q
      · subst q
        exact absurd er c
      · obtain ⟨v, e2, h1, h2, h3⟩ := krel_some t ⟨e', q, er⟩
        exact ⟨v, e2, h1, List.mem_cons_of_mem _ h2, h3⟩
theorem krel_put {r : Int} {v : V} {x : α} (h : KRel R kvs es) (n : ∀ e ∈ es, e.1 ≠ r) (hv : R v x) : KRel R (putK kvs (Sum.inl r) v) (es ++ [(r, x)]) := by
  rw [putK_new v (krel_none h n)]
  exact pair_app h (.cons ⟨rfl, hv⟩ .nil)
end
/-- how many different rooms there can be -/
theorem rooms_le {R : Nat} {l : List Int} (h : l.Nodup) (hR : ∀ r ∈ l, 0 ≤ r ∧ r < R) : l.length ≤ R := by
  have h1 : l ⊆ (List.range R).map fun i : Nat => (i : Int) := fun r hr => by
    obtain ⟨h0, h1⟩ := hR r hr
    exact List.mem_map.mpr ⟨r.toNat, List.mem_range.mpr (by omega), by omega⟩
  have h2 := h.length_le_of_subset h1
  rw [List.length_map, List.length_range] at h2
  exact h2
/-- what has been found from a: rooms, each with a way -/
structure Found (ds : List Dr) (R : Nat) (a : Int) (es : List (Int × List Stp)) : Prop where
  nd : (es.map (·.1)).Nodup
  ok : ∀ e ∈ es, 0 ≤ e.1 ∧ e.1 < R ∧ Path ds a e.1 e.2 ∧ e.2.length < es.length
  st : ∃ e ∈ es, e.1 = a
theorem Found.le {ds : List Dr} {R : Nat} {a : Int} {es : List (Int × List Stp)} (h : Found ds R a es) : es.length ≤ R := by
  have := rooms_le h.nd (R := R) fun r hr => by
    obtain ⟨e, he, q⟩ := List.mem_map.mp hr
    subst q
    exact ⟨(h.ok e he).1, (h.ok e he).2.1⟩
  rw [List.length_map] at this
  exact this
theorem Found.one {ds : List Dr} {R : Nat} {a : Int} (h0 : 0 ≤ a) (h1 : a < R) : Found ds R a [(a, [])] :=
  ⟨by simp, fun e he => by
    have e1 : e = (a, []) := by simpa using he
    subst e1
    exact ⟨h0, h1, rfl, Nat.zero_lt_one⟩, ⟨_, List.mem_cons_self, rfl⟩⟩
theorem Found.more {ds : List Dr} {R : Nat} {a : Int} {es : List (Int × List Stp)} (h : Found ds R a es) {e : Int × List Stp} (he : e ∈ es) {p : Stp} (hp : okStp ds p) (hR : okDr R (gate ds p)) (hn : (gate ds p).n = e.1) (new : ∀ e' ∈ es, e'.1 ≠ (gate ds p).r) :
    Found ds R a (es ++ [((gate ds p).r, e.2 ++ [p])]) := by
  obtain ⟨e0, e1, e2, e3⟩ := h.ok e he
  refine ⟨?_, fun e' he' => ?_, ?_⟩
  · rw [List.map_append, List.map_cons, List.map_nil]
    refine List.nodup_append.mpr ⟨h.nd, by simp, fun x hx y hy => ?_⟩
    obtain ⟨e', he', q⟩ := List.mem_map.mp hx
    have hy : y = (gate ds p).r := by simpa using hy
    rw [hy, ← q]
    exact new e' he'
  · rw [List.length_append, List.length_singleton]
    rcases List.mem_append.mp he' with q | q
    · obtain ⟨f0, f1, f2, f3⟩ := h.ok e' q
      exact ⟨f0, f1, f2, by omega⟩
    · have q : e' = ((gate ds p).r, e.2 ++ [p]) := by simpa using q
      subst q
      refine ⟨hR.2.2.1, hR.2.2.2.1, path_snoc hp (by rw [hn]; exact e2), ?_⟩
      rw [List.length_append, List.length_singleton]
      omega
  · obtain ⟨e', he', q⟩ := h.st
    exact ⟨e', List.mem_append_left _ he', q⟩
end K19

set_option Elab.async false
set_option linter.all false
set_option maxRecDepth 100000
set_option maxHeartbeats 4000000
/-! The law's search for a way. -/
namespace K19
open PySem L2

/-- a way as a value -/
def IsWay (H : Hp) (v : V) (ps : List Stp) : Prop := ∃ q, v = .ref q ∧ IsStps H q ps
theorem IsWay.tk {H H' : Hp} {v : V} {ps : List Stp} (h : IsWay H v ps) (k : TK H H') : IsWay H' v ps := by
  obtain ⟨q, e, h⟩ := h
  exact ⟨q, e, h.tk k⟩
theorem IsStps.len {H : Hp} {a : Addr} {ps : List Stp} (h : IsStps H a ps) : ∃ vs, H a = some (.tup vs) ∧ Paired (IsStp H) vs ps ∧ vs.length = ps.length := by
  obtain ⟨vs, h1, h2⟩ := h
  exact ⟨vs, h1, h2, h2.length⟩
/-- two ways, one after another -/
theorem cat_stps {K : PySem.W.Frag} {H : Hp} {Q : VK} {a b : Addr} {ps qs : List Stp} (ha : IsStps H a ps) (hb : IsStps H b qs) (hl : ps.length + qs.length < 10000) (k : ∀ (H' : Hp) (q : Addr), Same H H' → IsStps H' q (ps ++ qs) → Q (.ref q) H') : rCatA K (.ref a) (.ref b) H Q := by
  obtain ⟨vs, h1, h2, h3⟩ := ha.len
  obtain ⟨us, g1, g2, g3⟩ := hb.len
  refine ⟨a, b, vs, us, rfl, rfl, SqT.of h1, SqT.of g1, Nat.le_of_lt (small_line (by omega)), fun e => ?_, fun _ e => ?_, fun _ _ p hp => ?_⟩
  · subst e
    cases h2
    exact k H b (Same.refl H) hb
  · subst e
    cases g2
    rw [List.append_nil] at k
    exact k H a (Same.refl H) ha
  · have e := same_upd (o := .tup (vs ++ us)) hp
    exact k _ p e ⟨_, upd_same, pair_app (stps_tk h2 (tk_of e)) (stps_tk g2 (tk_of e))⟩

theorem map_snoc2 {α : Type} (es : List (Int × α)) (x : Int × α) : ((es ++ [x]).map (·.1)).map V.int = (es.map (·.1)).map V.int ++ [V.int x.1] := by
  rw [List.map_append, List.map_append]
  rfl
def spWay : Sp := fun vs H Q _ => ∃ (D : Addr) (ds : List Dr) (R : Nat) (a b : Int), vs = [.ref D, .int a, .int b] ∧ IsDoors H D ds ∧ House R ds ∧ 0 ≤ a ∧ a < R ∧ 0 ≤ b ∧ b < R ∧
  ∀ (H' : Hp) (q : Addr) (ps : List Stp), Same H H' → IsStps H' q ps → Path ds a b ps → ps.length < 7 → Q (.ref q) H'

/-- the search's state: the rooms found, their ways, the queue -/
structure WaySt (ds : List Dr) (R : Nat) (a : Int) (H H' : Hp) (kd qd : Addr) (es : List (Int × List Stp)) : Prop where
  same : Same H H'
  kn : ∃ kvs, H' kd = some (.dK kvs) ∧ KRel (IsWay H') kvs es
  qu : H' qd = some (.lst ((es.map (·.1)).map V.int))
  fd : Found ds R a es
def Seen (es : List (Int × List Stp)) (r : Int) : Prop := ∃ e ∈ es, e.1 = r
/-- the first t rooms of the queue are done -/
def Done (ds : List Dr) (es : List (Int × List Stp)) (t : Nat) : Prop := ∀ i e, i < t → es[i]? = some e → ∀ p ∈ stepsFrom ds e.1, Seen es (gate ds p).r
theorem Seen.more {es fs : List (Int × List Stp)} {r : Int} (h : Seen es r) : Seen (es ++ fs) r := by
  obtain ⟨e, he, q⟩ := h
  exact ⟨e, List.mem_append_left _ he, q⟩
theorem Done.more {ds : List Dr} {es fs : List (Int × List Stp)} {t : Nat} (h : Done ds es t) (ht : t ≤ es.length) : Done ds (es ++ fs) t := fun i e hi he p hp => by
  rw [List.getElem?_append_left (by omega)] at he
  exact (h i e hi he p hp).more
theorem WaySt.step {ds : List Dr} {R : Nat} {a : Int} {H H1 H2 : Hp} {kd qd : Addr} {es : List (Int × List Stp)} (W : WaySt ds R a H H1 kd qd es) (e : Same H1 H2) : WaySt ds R a H H2 kd qd es := by
  obtain ⟨s, ⟨kvs, h1, h2⟩, q, f⟩ := W
  exact ⟨s.trans e, ⟨kvs, e _ _ h1, krel_mono h2 fun _ _ z => z.tk (tk_of e)⟩, e _ _ q, f⟩

section
variable {P : Program} {w : World} {K : PySem.W.Frag} {mg : Str → Option Value} {base : Heap} {f : Addr} {fd : FuncData}
theorem ok_way (F : Fun K "_law_way" "_law_way" s_way f fd) (B : Blt mg) (DS : DefAt P w K mg base CX0 2 "_law_steps" a_steps spSteps) (DG : DefAt P w K mg base CX0 1 "_law_gate" a_gate spGate) : FnOk P w K mg base CX0 3 f fd a_way spWay := by
  refine F.ok sc_way (fun vs H Q E h => ?_) (fun cdv A outer s H vs Q E hr h => ?_)
  · obtain ⟨D, ds, R, a, b, rfl, _⟩ := h
    rfl
  · obtain ⟨D, ds, R, a, b, rfl, hD, hH, a0, a1, b0, b1, k⟩ := h
    have hu := hu_of hr
    have hr1 : Room 1 _ := hr.mono (by decide)
    refine ⟨_, pss_cons (ps_par3 (i := 3) (j := 4) (l := 5) rfl sc_way.nd rfl rfl rfl (by decide) (by decide) (by decide) rfl rfl rfl
        (pa_cons (pe_disp (pps_cons (pv 1) (pe_tup pa_nil) pps_nil) (by rfl) (by rfl) (fun z => by cases z) (by decide)) (pa_cons (pe_lst (pa_cons (pv 1) pa_nil)) (pa_cons pe_int pa_nil))) (by rfl))
      (pss_cons (ps_while PassesOwn.never (pt_cmpR op_lt (pv 5) (pe_callB call_len_seq (by rfl) B.len PySem.boot_len (pa_cons (pv 4) pa_nil)) (nomark _))
        (pss_cons (ps_for PassesOwn.never rfl (pi_list (pe_def DS hr rfl (pa_cons (pv 0) (pa_cons (pe_ix ix_list (pv 4) (pv 5) (fun _ _ => rfl)) pa_nil)))) (pg_name (i := 6) sc_way.nd rfl (Or.inl rfl))
          (pss_cons (ps_set (i := 7) sc_way.nd rfl (Or.inl rfl) (pe_ix ix_tup (pe_def DG hr1 rfl (pa_cons (pv 0) (pa_cons (pv 6) pa_nil))) pe_int (fun _ _ => rfl)))
          (pss_one (ps_if (pt_cmp (pc_dnotin hu (pv 7) (pv 3)))
            (pss_cons (ps_dput hu (pv 3) (pv 7) (pe_op op_catA (pe_dget hu (pv 3) (pe_ix ix_list (pv 4) (pv 5) (fun _ _ => rfl)) (fun _ _ => rfl)) (pe_tup (pa_cons (pv 6) pa_nil))) rfl)
            (pss_one (ps_expr (pe_bm PySem.F.plainAttrs_list PySem.F.slot_list_append PySem.F.type_list_append mt_append (pv 4) (pa_cons (pv 7) pa_nil))))) pss_nil))))
        (pss_one (ps_set (i := 5) sc_way.nd rfl (Or.inl rfl) (pe_op op_add (pv 5) pe_int)))))
      (pss_one (ps_ret (pe_dget hu (pv 3) (pv 2) (fun _ _ => rfl))))), ?_⟩
    -- the start
    refine fun kd hkd => ?_
    have e1 := same_upd (o := .dK []) hkd
    have g1 : (upd H kd (.dK [])) kd = some (.dK []) := upd_same
    generalize upd H kd (.dK []) = H1 at e1 g1 ⊢
    refine ⟨_, rfl, (by decide : 0 ≤ sizeLine), fun t ht => ?_⟩
    have e2 := same_upd (o := .tup []) ht
    have g2 : (upd H1 t (.tup [])) t = some (.tup []) := upd_same
    have g21 := e2 _ _ g1
    generalize upd H1 t (.tup []) = H2 at e2 g2 g21 ⊢
    refine ⟨g21, [(Sum.inl a, .ref t)], rfl, (by decide : 1 ≤ 15), ?_⟩
    have hkv : mergeK [] [((Sum.inl a : Key), V.ref t)] = [(Sum.inl a, V.ref t)] := rfl
    rw [hkv]
    have e3 : Same H (upd H2 kd (.dK [(Sum.inl a, .ref t)])) := same_write (e1.trans e2) hkd
    have g3 : (upd H2 kd (.dK [(Sum.inl a, .ref t)])) kd = some (.dK [(Sum.inl a, .ref t)]) := upd_same
    have g23 : (upd H2 kd (.dK [(Sum.inl a, .ref t)])) t = some (.tup []) := by rw [upd_ne (ne_of g2 g21 (by intro z; cases z))]; exact g2
    generalize upd H2 kd (.dK [(Sum.inl a, .ref t)]) = H3 at e3 g3 g23 ⊢
    refine ⟨_, rfl, (by decide : 1 ≤ sizeLine), fun qd hqd => ?_⟩
    have e4 := same_upd (o := .lst [.int a]) hqd
    have g4 : (upd H3 qd (.lst [.int a])) qd = some (.lst [.int a]) := upd_same
    have g34 := e4 _ _ g3
    have g24 := e4 _ _ g23
    have hqH : H qd = none := e3.free hqd
    have W0 : WaySt ds R a H (upd H3 qd (.lst [.int a])) kd qd [(a, [])] := ⟨e3.trans e4, ⟨_, g34, .cons ⟨rfl, t, rfl, [], g24, .nil⟩ .nil⟩, g4, Found.one a0 a1⟩
    generalize upd H3 qd (.lst [.int a]) = H4 at W0 ⊢
    refine ⟨_, _, _, rfl, ?_⟩
    refine ⟨fun m σ H' => ∃ (es : List (Int × List Stp)) (tn : Nat) (v6 v7 : Option V), m = R - tn ∧ σ = [some (.ref D), some (.int a), some (.int b), some (.ref kd), some (.ref qd), some (.int (tn : Int)), v6, v7] ∧ WaySt ds R a H H' kd qd es ∧ Done ds es tn ∧ tn ≤ es.length,
      ⟨_, [(a, [])], 0, none, none, rfl, rfl, W0, fun i e hi => absurd hi (Nat.not_lt_zero _), Nat.zero_le _⟩, ?_⟩
    rintro m σ H5 ⟨es, tn, v6, v7, em, rfl, W5, D5, l5⟩
    have hqu := W5.qu
    refine ⟨_, rfl, _, rfl, qd, _, rfl, .inl (SqL.of hqu), _, _, rfl, rfl, _, rfl, ?_⟩
    rw [List.length_map, List.length_map]
    by_cases c : tn < es.length
    · refine if_true_of' (decide_eq_true (by omega)) ?_
      refine ⟨fun σ' H' => ∃ m', m' < m ∧ ∃ (es : List (Int × List Stp)) (tn : Nat) (v6 v7 : Option V), m' = R - tn ∧ σ' = [some (.ref D), some (.int a), some (.int b), some (.ref kd), some (.ref qd), some (.int (tn : Int)), v6, v7] ∧ WaySt ds R a H H' kd qd es ∧ Done ds es tn ∧ tn ≤ es.length, fun _ _ z => z, ?_⟩
      obtain ⟨e0, he0⟩ : ∃ e0, es[tn]? = some e0 := ⟨_, List.getElem?_eq_getElem c⟩
      have hle := W5.fd.le
      have hq0 : ((es.map (·.1)).map V.int)[tn]? = some (V.int e0.1) := by rw [List.getElem?_map, List.getElem?_map, he0]; rfl
      refine ⟨_, rfl, _, rfl, _, rfl, qd, _, _, _, rfl, rfl, SqL.of hqu, atI_nat hq0, D, ds, e0.1, rfl, hD.tk (tk_of W5.same), by have := hH.len; omega, fun H6 l vs e6 hl hl6 hP6 => ?_⟩
      have W6 := W5.step e6
      have hne : l ≠ kd ∧ l ≠ qd := by
        obtain ⟨kvs, h1, _⟩ := W5.kn
        exact ⟨(ne_of_none h1 hl).symm, (ne_of_none hqu hl).symm⟩
      have hlH : H l = none := W5.same.free hl
      refine ⟨l, rfl, ⟨_, SqL.of hl6⟩, for_list (K := K) (a := l) (xs := vs) (fun j σ H' => ∃ (fs : List (Int × List Stp)) (v6 v7 : Option V), σ = [some (.ref D), some (.int a), some (.int b), some (.ref kd), some (.ref qd), some (.int (tn : Int)), v6, v7] ∧ WaySt ds R a H H' kd qd (es ++ fs) ∧ H' l = some (.lst vs) ∧ Paired (IsStp H') vs (stepsFrom ds e0.1) ∧ ∀ i p, i < j → (stepsFrom ds e0.1)[i]? = some p → Seen (es ++ fs) (gate ds p).r)
        ⟨[], v6, v7, rfl, by rw [List.append_nil]; exact W6, hl6, hP6, fun i p hi => absurd hi (Nat.not_lt_zero _)⟩ (fun i σ H' _ ⟨_, _, _, _, _, h, _⟩ => SqL.of h) ?_ ?_⟩
      · rintro j x σ H7 hx ⟨fs, v6, v7, rfl, W7, hl7, hP7, hS7⟩
        obtain ⟨st, hst, pa, rfl, hpa⟩ := pair_at' hP7 hx
        obtain ⟨hok, hn⟩ := mem_steps.mp (List.mem_of_getElem? hst)
        have hRo : okDr R (gate ds st) := gate_ok hH.ok hok
        refine ⟨_, rfl, _, rfl, D, pa, ds, st, rfl, hD.tk (tk_of W7.same), hpa, hok, fun g hg => ?_⟩
        have e8 := same_upd (o := .tup (doorV (gate ds st))) hg
        have g8 : (upd H7 g (.tup (doorV (gate ds st)))) g = some (.tup (doorV (gate ds st))) := upd_same
        have W8 := W7.step e8
        have hl8 := e8 _ _ hl7
        have hP8 := stps_tk hP7 (tk_of e8)
        have hpa8 := e8 _ _ hpa
        generalize upd H7 g (.tup (doorV (gate ds st))) = H8 at e8 g8 W8 hl8 hP8 hpa8 ⊢
        refine ⟨g, _, _, _, rfl, rfl, SqT.of g8, rfl, ?_⟩
        obtain ⟨kvs, hk8, hkr⟩ := W8.kn
        refine ⟨_, rfl, _, rfl, kd, _, rfl, DGet.k (k := Sum.inl (gate ds st).r) hk8, _, rfl, ?_⟩
        by_cases cs : Seen (es ++ fs) (gate ds st).r
        · obtain ⟨v, e', hv, _⟩ := krel_some hkr cs
          rw [hv]
          refine iteF ?_
          refine ⟨fs, _, _, rfl, W8, hl8, hP8, fun i p hi hp => ?_⟩
          by_cases ci : i = j
          · subst ci
            rw [hst] at hp
            cases hp
            exact cs
          · exact hS7 i p (by omega) hp
        · have hno : ∀ e' ∈ es ++ fs, e'.1 ≠ (gate ds st).r := fun e' he' z => cs ⟨e', he', z⟩
          rw [krel_none hkr hno]
          refine iteT ?_
          have hq8 := W8.qu
          have he0' : (es ++ fs)[tn]? = some e0 := by rw [List.getElem?_append_left c]; exact he0
          have hq8' : (((es ++ fs).map (·.1)).map V.int)[tn]? = some (V.int e0.1) := by rw [List.getElem?_map, List.getElem?_map, he0']; rfl
          obtain ⟨v, e', hv, he', hee, hway⟩ := krel_some (r := e0.1) hkr ⟨e0, List.mem_of_getElem? he0', rfl⟩
          obtain ⟨wq, rfl, hwq⟩ := hway
          refine ⟨_, rfl, _, rfl, _, rfl, qd, _, _, _, rfl, rfl, SqL.of hq8, atI_nat hq8', kd, _, rfl, by rw [← hv]; exact DGet.k (k := Sum.inl e0.1) hk8, ?_⟩
          refine ⟨_, rfl, (by decide : 1 ≤ sizeLine), fun t9 ht9 => ?_⟩
          have e9 := same_upd (o := .tup [V.ref pa]) ht9
          have g9 : (upd H8 t9 (.tup [V.ref pa])) t9 = some (.tup [V.ref pa]) := upd_same
          have W9 := W8.step e9
          have hl9 := e9 _ _ hl8
          have hP9 := stps_tk hP8 (tk_of e9)
          have hpa9 := e9 _ _ hpa8
          have hwq9 := hwq.tk (tk_of e9)
          generalize upd H8 t9 (.tup [V.ref pa]) = H9 at e9 g9 W9 hl9 hP9 hpa9 hwq9 ⊢
          obtain ⟨f0, f1, f2, f3⟩ := W9.fd.ok e' he'
          have hle9 := W9.fd.le
          have hR7 := hH.r7
          refine cat_stps hwq9 ⟨_, g9, .cons ⟨pa, rfl, hpa9⟩ .nil⟩ (by show e'.2.length + 1 < 10000; omega) fun HA nw eA hnw => ?_
          have WA := W9.step eA
          have hlA := eA _ _ hl9
          have hPA := stps_tk hP9 (tk_of eA)
          obtain ⟨kvs', hkA, hkrA⟩ := WA.kn
          have hlenk : kvs'.length < sizeLine := small_line (by rw [hkrA.length]; omega)
          refine ⟨_, rfl, _, rfl, kd, _, rfl, DPut.k (k := Sum.inl (gate ds st).r) hkA hlenk, ?_⟩
          have hqA := WA.qu
          have nkq : qd ≠ kd := ne_of hqA hkA (by intro z; cases z)
          have tkB := tk_dK (o := .dK (putK kvs' (Sum.inl (gate ds st).r) (.ref nw))) hkA
          have hqB : (upd HA kd (.dK (putK kvs' (Sum.inl (gate ds st).r) (.ref nw)))) qd = some (.lst (((es ++ fs).map (·.1)).map V.int)) := by rw [upd_ne nkq]; exact hqA
          have hkB : (upd HA kd (.dK (putK kvs' (Sum.inl (gate ds st).r) (.ref nw)))) kd = some (.dK (putK kvs' (Sum.inl (gate ds st).r) (.ref nw))) := upd_same
          have sB : Same H (upd HA kd (.dK (putK kvs' (Sum.inl (gate ds st).r) (.ref nw)))) := same_write WA.same hkd
          have hlB : (upd HA kd (.dK (putK kvs' (Sum.inl (gate ds st).r) (.ref nw)))) l = some (.lst vs) := by rw [upd_ne hne.1]; exact hlA
          generalize upd HA kd (.dK (putK kvs' (Sum.inl (gate ds st).r) (.ref nw))) = HB at tkB hqB hkB sB hlB ⊢
          have hql : (((es ++ fs).map (·.1)).map V.int).length < sizeLine := small_line (by rw [List.length_map, List.length_map]; omega)
          have tkC := tk_lst (o := .lst (((es ++ fs).map (·.1)).map V.int ++ [V.int (gate ds st).r])) hqB
          refine ⟨_, rfl, .inl ⟨rfl, _, SqL.of hqB⟩, _, rfl, qd, _, _, rfl, rfl, hqB, hql, ?_⟩
          refine ⟨fs ++ [((gate ds st).r, e'.2 ++ [st])], _, _, rfl, ⟨same_write sB hqH, ⟨putK kvs' (Sum.inl (gate ds st).r) (.ref nw), ?_, ?_⟩, ?_, ?_⟩, ?_, ?_, ?_⟩
          · rw [upd_ne nkq.symm]
            exact hkB
          · rw [← List.append_assoc]
            exact krel_put (krel_mono hkrA fun _ _ z => (z.tk tkB).tk tkC) hno ⟨nw, rfl, (hnw.tk tkB).tk tkC⟩
          · rw [upd_same, ← List.append_assoc, map_snoc2]
          · rw [← List.append_assoc]
            exact WA.fd.more he' hok hRo (by rw [hn, hee]) hno
          · rw [upd_ne hne.2]
            exact hlB
          · exact stps_tk (stps_tk hPA tkB) tkC
          · intro i p hi hp
            rw [← List.append_assoc]
            by_cases ci : i = j
            · subst ci
              rw [hst] at hp
              cases hp
              exact ⟨_, List.mem_append_right _ List.mem_cons_self, rfl⟩
            · exact (hS7 i p (by omega) hp).more
      · rintro σ H7 ⟨fs, v6, v7, rfl, W7, hl7, hP7, hS7⟩
        rw [hP7.length] at hS7
        refine ⟨_, rfl, _, _, rfl, rfl, ?_⟩
        have he0' : (es ++ fs)[tn]? = some e0 := by rw [List.getElem?_append_left c]; exact he0
        refine ⟨R - (tn + 1), by omega, es ++ fs, tn + 1, v6, v7, rfl, rfl, W7, fun i e hi he p hp => ?_, by rw [List.length_append]; omega⟩
        by_cases ci : i = tn
        · subst ci
          rw [he0'] at he
          cases he
          obtain ⟨j, hj, ej⟩ := List.mem_iff_getElem.mp hp
          exact hS7 j p hj (by rw [List.getElem?_eq_getElem hj, ej])
        · exact (D5.more l5) i e (by omega) he p hp
    · refine if_false_of' (decide_eq_false (by omega)) ?_
      have etn : tn = es.length := by omega
      subst etn
      have hS : Seen es b := by
        refine hH.conn (Seen es) (closed_of fun r hr p hp => ?_) a b a0 a1 b0 b1 W5.fd.st
        obtain ⟨e, he, q⟩ := hr
        obtain ⟨i, hi, ei⟩ := List.mem_iff_getElem.mp he
        exact D5 i e hi (by rw [List.getElem?_eq_getElem hi, ei]) p (by rw [q]; exact hp)
      obtain ⟨kvs, hk5, hkr⟩ := W5.kn
      obtain ⟨v, e', hv, he', hee, wq, rfl, hwq⟩ := krel_some hkr hS
      obtain ⟨f0, f1, f2, f3⟩ := W5.fd.ok e' he'
      have hle := W5.fd.le
      have hR7 := hH.r7
      refine ⟨_, rfl, _, rfl, kd, _, rfl, by rw [← hv]; exact DGet.k (k := Sum.inl b) hk5, ?_⟩
      exact k H5 wq e'.2 W5.same hwq (by rw [← hee]; exact f2) (by omega)
end
end K19

set_option Elab.async false
set_option linter.all false
set_option maxRecDepth 100000
set_option maxHeartbeats 4000000
/-! Ratios: in lowest terms, their sign. -/
namespace K19
open PySem L2

/-- the common divisor with the bottom's sign -/
def lc (top bottom : Int) : Int := if 0 < bottom then (Nat.gcd top.natAbs bottom.natAbs : Nat) else 0 - (Nat.gcd top.natAbs bottom.natAbs : Nat)
def lT (top bottom : Int) : Int := top.fdiv (lc top bottom)
def lB (top bottom : Int) : Int := bottom.fdiv (lc top bottom)
theorem lc_abs (t b : Int) : (lc t b).natAbs = Nat.gcd t.natAbs b.natAbs := by
  unfold lc
  split <;> omega
theorem lc_ne {t b : Int} (h : b ≠ 0) : lc t b ≠ 0 := by
  have h1 : 0 < Nat.gcd t.natAbs b.natAbs := Nat.gcd_pos_of_pos_right _ (by omega)
  have h2 := lc_abs t b
  intro z
  rw [z] at h2
  have h3 : (0 : Int).natAbs = 0 := rfl
  omega
theorem lc_sign {t b : Int} (h : b ≠ 0) : (lc t b).sign = b.sign := by
  have h1 : 0 < Nat.gcd t.natAbs b.natAbs := Nat.gcd_pos_of_pos_right _ (by omega)
  unfold lc
  split
  · rename_i hb
    rw [Int.sign_eq_one_iff_pos.mpr hb, Int.sign_eq_one_iff_pos.mpr (by omega)]
  · rename_i hb
    rw [Int.sign_eq_neg_one_of_neg (show b < 0 by omega), Int.sign_eq_neg_one_of_neg (by omega)]
theorem lc_dvd_t (t b : Int) : lc t b ∣ t := Int.natAbs_dvd_natAbs.mp (by rw [lc_abs]; exact Nat.gcd_dvd_left _ _)
theorem lc_dvd_b (t b : Int) : lc t b ∣ b := Int.natAbs_dvd_natAbs.mp (by rw [lc_abs]; exact Nat.gcd_dvd_right _ _)
theorem sign_sq {x : Int} (h : x ≠ 0) : x.sign * x.sign = 1 := by
  rcases Int.sign_trichotomy x with e | e | e
  · rw [e]
    rfl
  · exact absurd (Int.sign_eq_zero_iff_zero.mp e) h
  · rw [e]
    rfl
theorem sign_pm {x : Int} (h : x ≠ 0) : x.sign = 1 ∨ x.sign = -1 := by
  rcases Int.sign_trichotomy x with e | e | e
  · exact .inl e
  · exact absurd (Int.sign_eq_zero_iff_zero.mp e) h
  · exact .inr e
structure Low (t b T B : Int) : Prop where
  pos : 0 < B
  ne : T ≠ 0
  cop : Nat.gcd T.natAbs B.natAbs = 1
  sg : T.sign = t.sign * b.sign
theorem low_laws {t b : Int} (ht : t ≠ 0) (hb : b ≠ 0) : Low t b (lT t b) (lB t b) := by
  have e1 : lT t b * lc t b = t := by
    unfold lT
    rw [Int.fdiv_eq_ediv_of_dvd (lc_dvd_t t b)]
    exact Int.ediv_mul_cancel (lc_dvd_t t b)
  have e2 : lB t b * lc t b = b := by
    unfold lB
    rw [Int.fdiv_eq_ediv_of_dvd (lc_dvd_b t b)]
    exact Int.ediv_mul_cancel (lc_dvd_b t b)
  have n1 : lT t b ≠ 0 := fun z => ht (by rw [← e1, z, Int.zero_mul])
  have n2 : lB t b ≠ 0 := fun z => hb (by rw [← e2, z, Int.zero_mul])
  have s1 : (lT t b).sign * (lc t b).sign = t.sign := by rw [← Int.sign_mul, e1]
  have s2 : (lB t b).sign * (lc t b).sign = b.sign := by rw [← Int.sign_mul, e2]
  have s3 := lc_sign (t := t) hb
  have s4 := sign_sq hb
  have s5 : (lB t b).sign = 1 := by
    rw [s3] at s2
    rcases sign_pm hb with q | q <;> rw [q] at s2 <;> omega
  refine ⟨Int.sign_eq_one_iff_pos.mp s5, n1, ?_, ?_⟩
  · have g0 : 0 < Nat.gcd t.natAbs b.natAbs := Nat.gcd_pos_of_pos_right _ (by omega)
    have a1 : (lT t b).natAbs * Nat.gcd t.natAbs b.natAbs = t.natAbs := by rw [← lc_abs, ← Int.natAbs_mul, e1]
    have a2 : (lB t b).natAbs * Nat.gcd t.natAbs b.natAbs = b.natAbs := by rw [← lc_abs, ← Int.natAbs_mul, e2]
    have a3 : Nat.gcd ((lT t b).natAbs * Nat.gcd t.natAbs b.natAbs) ((lB t b).natAbs * Nat.gcd t.natAbs b.natAbs) = Nat.gcd (lT t b).natAbs (lB t b).natAbs * Nat.gcd t.natAbs b.natAbs := Nat.gcd_mul_right _ _ _
    rw [a1, a2] at a3
    exact Nat.eq_of_mul_eq_mul_right g0 (by rw [← a3, Nat.one_mul])
  · rw [← s1, s3, Int.mul_assoc, s4, Int.mul_one]
/-- what comes of a ratio in lowest terms and a door's numbers has a small common divisor -/
theorem gcd_small {t b a l : Int} (h : Nat.gcd t.natAbs b.natAbs = 1) (ha : a ≠ 0) (hl : l ≠ 0) (a1 : -999 ≤ a) (a2 : a ≤ 999) (l1 : -999 ≤ l) (l2 : l ≤ 999) : Nat.gcd (t * a).natAbs (b * l).natAbs < 1073741824 := by
  have d1 : Nat.gcd (t * a).natAbs (b * l).natAbs ∣ t.natAbs * (a.natAbs * l.natAbs) := by
    rw [← Nat.mul_assoc, ← Int.natAbs_mul]
    exact Nat.dvd_mul_right_of_dvd (Nat.gcd_dvd_left _ _) _
  have d2 : Nat.gcd (t * a).natAbs (b * l).natAbs ∣ b.natAbs * (a.natAbs * l.natAbs) := by
    rw [Nat.mul_comm a.natAbs, ← Nat.mul_assoc, ← Int.natAbs_mul b]
    exact Nat.dvd_mul_right_of_dvd (Nat.gcd_dvd_right _ _) _
  have d3 := Nat.dvd_gcd d1 d2
  rw [Nat.gcd_mul_right, h, Nat.one_mul] at d3
  have p : 0 < a.natAbs * l.natAbs := Nat.mul_pos (by omega) (by omega)
  have q : a.natAbs * l.natAbs ≤ 999 * 999 := Nat.mul_le_mul (by omega) (by omega)
  have := Nat.le_of_dvd p d3
  omega

/-! ### the sign of a way -/
def psgn (ds : List Dr) : List Stp → Int
  | [] => 1
  | p :: ps => ((gate ds p).f.sign * (gate ds p).s.sign) * psgn ds ps
theorem psgn_app (ds : List Dr) : ∀ ps qs : List Stp, psgn ds (ps ++ qs) = psgn ds ps * psgn ds qs
  | [], qs => by
    show psgn ds qs = 1 * psgn ds qs
    rw [Int.one_mul]
  | p :: ps, qs => by
    show _ * psgn ds (ps ++ qs) = _ * psgn ds ps * psgn ds qs
    rw [psgn_app ds ps qs, Int.mul_assoc, Int.mul_assoc, Int.mul_assoc]
theorem psgn_snoc (ds : List Dr) (ps : List Stp) (p : Stp) : psgn ds (ps ++ [p]) = psgn ds ps * ((gate ds p).f.sign * (gate ds p).s.sign) := by
  rw [psgn_app]
  show _ * (_ * 1) = _
  rw [Int.mul_one]
theorem psgn_pm {ds : List Dr} {R : Nat} (h : ∀ d ∈ ds, okDr R d) : ∀ {ps : List Stp}, (∀ p ∈ ps, okStp ds p) → psgn ds ps = 1 ∨ psgn ds ps = -1
  | [], _ => .inl rfl
  | p :: ps, hp => by
    obtain ⟨_, _, _, _, f0, s0, _⟩ := gate_ok h (hp p List.mem_cons_self)
    have ih := psgn_pm h (ps := ps) fun q hq => hp q (List.mem_cons_of_mem _ hq)
    show (_ * _) * psgn ds ps = 1 ∨ (_ * _) * psgn ds ps = -1
    rcases sign_pm f0 with e | e <;> rcases sign_pm s0 with e' | e' <;> rcases ih with q | q <;> rw [e, e', q] <;> decide

/-- signs fit the doors -/
def Fit (ds : List Dr) (ε : Int → Int) : Prop := ∀ d ∈ ds, d.f.sign * ε d.n = d.s.sign * ε d.r
def Sgn (R : Nat) (ε : Int → Int) : Prop := ∀ r : Int, 0 ≤ r → r < R → ε r = 1 ∨ ε r = -1
theorem fit_gate {ds : List Dr} {ε : Int → Int} (h : Fit ds ε) {p : Stp} (hp : okStp ds p) : (gate ds p).f.sign * ε (gate ds p).n = (gate ds p).s.sign * ε (gate ds p).r := by
  have hm := h _ (getD_mem (d := ⟨0, 0, 0, 0⟩) (show p.1.toNat < ds.length by have := hp.1; have := hp.2.1; omega))
  unfold gate
  split
  · exact hm
  · exact hm.symm
theorem fit_path {ds : List Dr} {R : Nat} {ε : Int → Int} (hok : ∀ d ∈ ds, okDr R d) (h : Fit ds ε) (hs : Sgn R ε) {b : Int} : ∀ {ps : List Stp} {a : Int}, 0 ≤ a → a < R → Path ds a b ps → psgn ds ps * ε a = ε b
  | [], a, _, _, h => by
    have e : a = b := h
    rw [e]
    exact Int.one_mul _
  | p :: ps, a, a0, a1, ⟨h1, h2, h3⟩ => by
    obtain ⟨_, _, r0, r1, f0, s0, _⟩ := gate_ok hok h1
    have ih := fit_path hok h hs (ps := ps) r0 r1 h3
    have hg := fit_gate h h1
    rw [h2] at hg
    show ((gate ds p).f.sign * (gate ds p).s.sign) * psgn ds ps * ε a = ε b
    rw [← ih]
    rcases sign_pm f0 with e | e <;> rcases sign_pm s0 with e' | e' <;> rcases hs a a0 a1 with q | q <;> rcases hs _ r0 r1 with q' | q' <;> rw [e, e', q, q'] at hg <;> rw [e, e', q, q'] <;> omega
end K19

set_option Elab.async false
set_option linter.all false
set_option maxRecDepth 100000
set_option maxHeartbeats 4000000
/-! Ratios by the law and by the program. -/
namespace K19
open PySem L2

def spLow : Sp := fun vs H Q _ => ∃ t b : Int, vs = [.int t, .int b] ∧ t ≠ 0 ∧ b ≠ 0 ∧ Nat.gcd t.natAbs b.natAbs < 1073741824 ∧ ∀ q, H q = none → Q (.ref q) (upd H q (.tup [.int (lT t b), .int (lB t b)]))
/-- _law_ratio(doors, steps) -/
def spRatio : Sp := fun vs H Q _ => ∃ (D S : Addr) (ds : List Dr) (R : Nat) (ps : List Stp), vs = [.ref D, .ref S] ∧ IsDoors H D ds ∧ IsStps H S ps ∧ (∀ d ∈ ds, okDr R d) ∧ (∀ p ∈ ps, okStp ds p) ∧
  ∀ (H' : Hp) (q : Addr) (t b : Int), Same H H' → H' q = some (.tup [.int t, .int b]) → t ≠ 0 → t.sign = psgn ds ps → Q (.ref q) H'
/-- a house as a value: an instance of the class at C -/
def IsHouse (C : Addr) (H : Hp) (a : Addr) (R : Nat) (ds : List Dr) : Prop := ∃ dx D, H a = some (.ins C dx [("rooms", .int (R : Int)), ("doors", .ref D)]) ∧ IsDoors H D ds
theorem IsHouse.tk {C : Addr} {H H' : Hp} {a : Addr} {R : Nat} {ds : List Dr} (h : IsHouse C H a R ds) (k : TK H H') : IsHouse C H' a R ds := by
  obtain ⟨dx, D, h1, h2⟩ := h
  exact ⟨dx, D, k.2 _ _ _ _ h1, h2.tk k⟩
/-- what the written part says of House -/
structure HTxt (K : PySem.W.Frag) (mg : Str → Option Value) (C : Addr) : Prop where
  cl : Cls K C
  nR : NoAttr K C "rooms"
  nD : NoAttr K C "doors"
  mgC : mg "House" = some (.ref C)
def spGateOf (C : Addr) : Sp := fun vs H Q _ => ∃ (h p : Addr) (R : Nat) (ds : List Dr) (st : Stp), vs = [.ref h, .ref p] ∧ IsHouse C H h R ds ∧ H p = some (.tup (stpV st)) ∧ okStp ds st ∧ ∀ q, H q = none → Q (.ref q) (upd H q (.tup (doorV (gate ds st))))
/-- ratio_over(house, passes) -/
def spRatioOver (C : Addr) : Sp := fun vs H Q _ => ∃ (h S : Addr) (R : Nat) (ds : List Dr) (ps : List Stp), vs = [.ref h, .ref S] ∧ IsHouse C H h R ds ∧ IsStps H S ps ∧ (∀ d ∈ ds, okDr R d) ∧ (∀ p ∈ ps, okStp ds p) ∧
  ∀ (H' : Hp) (q : Addr) (t b : Int), Same H H' → H' q = some (.tup [.int t, .int b]) → t ≠ 0 → t.sign = psgn ds ps → Q (.ref q) H'

section
variable {P : Program} {w : World} {K : PySem.W.Frag} {mg : Str → Option Value} {base : Heap} {f : Addr} {fd : FuncData}
theorem lc_neg {t b : Int} (h : b < 0) : 0 - ((Nat.gcd t.natAbs b.natAbs : Nat) : Int) = lc t b := by
  unfold lc
  rw [if_neg (by omega)]
theorem lc_pos {t b : Int} (h : ¬ b < 0) (hb : b ≠ 0) : ((Nat.gcd t.natAbs b.natAbs : Nat) : Int) = lc t b := by
  unfold lc
  rw [if_pos (by omega)]
theorem ok_lowest (F : Fun K "_law_lowest" "_law_lowest" s_lowest f fd) (DC : DefAt P w K mg base CX0 1 "_law_common" a_common spCommon) : FnOk P w K mg base CX0 2 f fd a_lowest spLow := by
  refine F.ok sc_lowest (fun vs H Q E h => ?_) (fun cdv A outer s H vs Q E hr h => ?_)
  · obtain ⟨v, n, rfl, _⟩ := h
    rfl
  · obtain ⟨t, b, rfl, t0, b0, hg, k⟩ := h
    have hl : (lc t b).natAbs < 1073741824 := by rw [lc_abs]; exact hg
    refine ⟨_, pss_cons (ps_set (i := 2) sc_lowest.nd rfl (Or.inl rfl) (pe_def DC hr rfl (pa_cons (pv 0) (pa_cons (pv 1) pa_nil))))
      (C8.pss_cut (ps_if (pt_cmpR op_lt (pv 1) pe_int (nomark _)) (pss_one (ps_set (i := 2) sc_lowest.nd rfl (Or.inl rfl) (pe_op op_sub pe_int (pv 2)))) pss_nil)
      (pss_one (ps_ret (pe_tup (pa_cons (pe_op op_fdivN (pv 0) (pv 2)) (pa_cons (pe_op op_fdivN (pv 1) (pv 2)) pa_nil)))))), ?_⟩
    refine ⟨_, rfl, _, rfl, _, _, rfl, fun σ H' => H' = H ∧ σ = [some (.int t), some (.int b), some (.int (lc t b))], ?_, ?_⟩
    · refine ⟨_, rfl, _, _, rfl, rfl, _, rfl, ite2 (fun c => ?_) (fun c => ?_)⟩
      · exact ⟨_, rfl, _, _, rfl, rfl, rfl, by rw [← lc_neg (of_decide_eq_true c)]; rfl⟩
      · exact ⟨rfl, by rw [← lc_pos (fun z => c (decide_eq_true z)) b0]; rfl⟩
    · rintro σ H' ⟨rfl, rfl⟩
      exact ⟨_, rfl, _, rfl, _, _, rfl, rfl, ⟨lc_ne b0, hl⟩, _, rfl, _, rfl, _, _, rfl, rfl, ⟨lc_ne b0, hl⟩, (by decide : 2 ≤ sizeLine), k⟩
theorem ok_p_lowest (F : Fun K "lowest" "lowest" s_p_lowest f fd) (hg : mg "gcd" = some (.builtin "math.gcd")) : FnOk P w K mg base CX0 2 f fd a_p_lowest spLow := by
  refine F.ok sc_p_lowest (fun vs H Q E h => ?_) (fun cdv A outer s H vs Q E hr h => ?_)
  · obtain ⟨v, n, rfl, _⟩ := h
    rfl
  · obtain ⟨t, b, rfl, t0, b0, hgc, k⟩ := h
    have hl : (lc t b).natAbs < 1073741824 := by rw [lc_abs]; exact hgc
    refine ⟨_, C8.pss_cut (ps_set (i := 2) sc_p_lowest.nd rfl (Or.inl rfl) (pe_ifExp (pt_cmpR op_gt (pv 1) pe_int (nomark _)) (pe_callBfun cr_gcd (by rfl) hg (pa_cons (pv 0) (pa_cons (pv 1) pa_nil))) (pe_op op_sub pe_int (pe_callBfun cr_gcd (by rfl) hg (pa_cons (pv 0) (pa_cons (pv 1) pa_nil))))))
      (pss_one (ps_ret (pe_tup (pa_cons (pe_op op_fdivN (pv 0) (pv 2)) (pa_cons (pe_op op_fdivN (pv 1) (pv 2)) pa_nil))))), ?_⟩
    refine ⟨fun σ H' => H' = H ∧ σ = [some (.int t), some (.int b), some (.int (lc t b))], ?_, ?_⟩
    · refine ⟨_, rfl, _, _, rfl, rfl, _, rfl, ite2 (fun c => ?_) (fun c => ?_)⟩
      · have c2 : 0 < b := of_decide_eq_true c
        exact ⟨_, rfl, _, rfl, _, _, rfl, rfl, by rw [← lc_pos (by omega) b0]; rfl⟩
      · have c2 : ¬ 0 < b := fun z => c (decide_eq_true z)
        exact ⟨_, rfl, _, rfl, _, _, rfl, _, _, rfl, rfl, rfl, by rw [← lc_neg (by omega)]; rfl⟩
    · rintro σ H' ⟨rfl, rfl⟩
      exact ⟨_, rfl, _, rfl, _, _, rfl, rfl, ⟨lc_ne b0, hl⟩, _, rfl, _, rfl, _, _, rfl, rfl, ⟨lc_ne b0, hl⟩, (by decide : 2 ≤ sizeLine), k⟩
theorem ratio_step {t b f s : Int} {ds : List Dr} {ps : List Stp} {p : Stp} {R : Nat} (hR : okDr R (gate ds p)) (b0 : 0 < b) (t0 : t ≠ 0) (hc : Nat.gcd t.natAbs b.natAbs = 1) (hs : t.sign = psgn ds ps) :
    t * (gate ds p).s ≠ 0 ∧ b * (gate ds p).f ≠ 0 ∧ Nat.gcd (t * (gate ds p).s).natAbs (b * (gate ds p).f).natAbs < 1073741824 ∧ Low (t * (gate ds p).s) (b * (gate ds p).f) (lT (t * (gate ds p).s) (b * (gate ds p).f)) (lB (t * (gate ds p).s) (b * (gate ds p).f)) ∧ (lT (t * (gate ds p).s) (b * (gate ds p).f)).sign = psgn ds (ps ++ [p]) := by
  obtain ⟨_, _, _, _, f0, s0, f1, f2, s1, s2⟩ := hR
  have n1 : t * (gate ds p).s ≠ 0 := fun z => (Int.mul_eq_zero.mp z).elim t0 s0
  have n2 : b * (gate ds p).f ≠ 0 := fun z => (Int.mul_eq_zero.mp z).elim (by omega) f0
  have L := low_laws n1 n2
  refine ⟨n1, n2, gcd_small hc s0 f0 s1 s2 f1 f2, L, ?_⟩
  rw [L.sg, Int.sign_mul, Int.sign_mul, Int.sign_eq_one_iff_pos.mpr b0, psgn_snoc, hs, Int.one_mul, Int.mul_assoc, Int.mul_comm (gate ds p).s.sign]
theorem ok_ratio (F : Fun K "_law_ratio" "_law_ratio" s_ratio f fd) (DG : DefAt P w K mg base CX0 1 "_law_gate" a_gate spGate) (DL : DefAt P w K mg base CX0 2 "_law_lowest" a_lowest spLow) : FnOk P w K mg base CX0 3 f fd a_ratio spRatio := by
  refine F.ok sc_ratio (fun vs H Q E h => ?_) (fun cdv A outer s H vs Q E hr h => ?_)
  · obtain ⟨D, S, ds, R, ps, rfl, _⟩ := h
    rfl
  · obtain ⟨D, S, ds, R, ps, rfl, hD, hS, hok, hst, k⟩ := h
    have hr1 : Room 1 _ := hr.mono (by decide)
    obtain ⟨us, hus, hPs⟩ := id hS
    refine ⟨_, pss_cons (ps_set (i := 2) sc_ratio.nd rfl (Or.inl rfl) (pe_tup (pa_cons pe_int (pa_cons pe_int pa_nil))))
      (pss_cons (ps_for PassesOwn.never rfl (pi_tup (pv 1)) (pg_name (i := 3) sc_ratio.nd rfl (Or.inl rfl))
        (pss_cons (ps_asg (pe_def DG hr1 rfl (pa_cons (pv 0) (pa_cons (pv 3) pa_nil))) (pg_tup rfl (pgs_cons (pg_name (i := 4) sc_ratio.nd rfl (Or.inl rfl)) (pgs_cons (pg_name (i := 5) sc_ratio.nd rfl (Or.inl rfl)) (pgs_cons (pg_name (i := 6) sc_ratio.nd rfl (Or.inl rfl)) (pgs_cons (pg_name (i := 7) sc_ratio.nd rfl (Or.inl rfl)) pgs_nil))))))
        (pss_one (ps_set (i := 2) sc_ratio.nd rfl (Or.inl rfl) (pe_def DL hr rfl (pa_cons (pe_op op_mul (pe_ix ix_tup (pv 2) pe_int (fun _ _ => rfl)) (pv 7)) (pa_cons (pe_op op_mul (pe_ix ix_tup (pv 2) pe_int (fun _ _ => rfl)) (pv 5)) pa_nil)))))))
      (pss_one (ps_ret (pv 2)))), ?_⟩
    refine ⟨(by decide : 2 ≤ sizeLine), fun p0 hp0 => ?_⟩
    refine ⟨_, rfl, S, rfl, ⟨_, SqT.of (same_upd hp0 _ _ hus)⟩, for_tup (K := K) (a := S) (xs := us) (fun i σ H' => ∃ (q : Addr) (t b : Int) (v3 v4 v5 v6 v7 : Option V), σ = [some (.ref D), some (.ref S), some (.ref q), v3, v4, v5, v6, v7] ∧ Same H H' ∧ H' q = some (.tup [.int t, .int b]) ∧ 0 < b ∧ t ≠ 0 ∧ Nat.gcd t.natAbs b.natAbs = 1 ∧ t.sign = psgn ds (ps.take i))
      ⟨p0, 1, 1, none, none, none, none, none, rfl, same_upd hp0, upd_same, by decide, by decide, rfl, rfl⟩ (fun i σ H' _ ⟨_, _, _, _, _, _, _, _, _, e, _⟩ => SqT.of (e _ _ hus)) ?_ ?_⟩
    · rintro i x σ H1 hx ⟨q, t, b, v3, v4, v5, v6, v7, rfl, e1, hq, b0, t0, hc, hs⟩
      obtain ⟨st, hp, pa, rfl, hpa⟩ := pair_at' hPs hx
      have hso := hst st (List.mem_of_getElem? hp)
      have hRo := gate_ok hok hso
      obtain ⟨n1, n2, n3, L, n4⟩ := ratio_step (f := 0) (s := 0) hRo b0 t0 hc hs
      obtain ⟨_, _, _, _, f0, s0, f1, f2, s1, s2⟩ := hRo
      refine ⟨_, rfl, _, rfl, D, pa, ds, st, rfl, hD.tk (tk_of e1), e1 _ _ hpa, hso, fun g hg => ?_⟩
      have e2 := same_upd (o := .tup (doorV (gate ds st))) hg
      have g2 : (upd H1 g (.tup (doorV (gate ds st)))) g = some (.tup (doorV (gate ds st))) := upd_same
      have hq2 := e2 _ _ hq
      generalize upd H1 g (.tup (doorV (gate ds st))) = H2 at e2 g2 hq2 ⊢
      refine ⟨g, _, rfl, SqT.of g2, rfl, ⟨_, _, rfl, _, _, rfl, _, _, rfl, _, _, rfl, rfl, ?_⟩⟩
      refine ⟨_, rfl, q, _, _, _, rfl, rfl, SqT.of hq2, rfl, _, rfl, _, _, rfl, rfl, .inr ⟨by omega, by omega⟩, _, rfl, q, _, _, _, rfl, rfl, SqT.of hq2, rfl, _, rfl, _, _, rfl, rfl, .inr ⟨by omega, by omega⟩, ?_⟩
      refine ⟨_, _, rfl, n1, n2, n3, fun q3 hq3 => ?_⟩
      exact ⟨q3, _, _, _, _, _, _, _, rfl, (e1.trans e2).trans (same_upd hq3), upd_same, L.pos, L.ne, L.cop, by rw [take_more hp]; exact n4⟩
    · rintro σ H1 ⟨q, t, b, v3, v4, v5, v6, v7, rfl, e1, hq, b0, t0, hc, hs⟩
      rw [hPs.length, List.take_length] at hs
      exact ⟨_, rfl, k H1 q t b e1 hq t0 hs⟩
end
end K19

set_option Elab.async false
set_option linter.all false
set_option maxRecDepth 100000
set_option maxHeartbeats 4000000
/-! Rules of our own: enumerate over a tuple. -/
namespace K19
open PySem PySem.Spec PyProof.Rows L2

theorem enum_made (a : Addr) (items : Array Value) :
    Meets (Builtin.«enumerate.__new__» ⟨[.type "enumerate", .ref a], []⟩) (fun _ R z => z.heap.IsTuple a items ∧
      R (.ok (.ret (.ref (z.heap.push { cls := .type "tuple_iterator", data := .fields #[.ref a, .int 0 0] }).objs.size)))
        { z with heap := (z.heap.push { cls := .type "tuple_iterator", data := .fields #[.ref a, .int 0 0] }).push { cls := .type "enumerate", data := .fields #[.none, .bool false, .ref z.heap.objs.size, rawInt 0, .none, .none] } }) := by
  refine .of_wp fun pr wo Ar Rs z hz => ?_
  obtain ⟨zh, zg, zd, zt, zo⟩ := z
  obtain ⟨hT, hR⟩ := hz
  have sb := sub_enumerate
  have it : ∀ {A' : Around} {E' : Value → Shared → Prop} {Q' : Value → Shared → Prop}, Q' (.ref zh.objs.size) ⟨zh.push { cls := .type "tuple_iterator", data := .fields #[.ref a, .int 0 0] }, zg, zd, zt, zo⟩ → wpAny (model pr wo) A' (pyIter (.ref a)) Q' E' ⟨zh, zg, zd, zt, zo⟩ := fun hq => wpAny_pyIter_tuple hT hq
  wp_walk using it
  refine wpAny_stack_any fun fr => wpAny_pure ?_
  split
  · rename_i kind _ _ _ _ _
    cases (kind == Value.type "enumerate") <;> (wp_walk using it; exact ⟨_, rfl, hR⟩)
  · wp_walk using it
    exact ⟨_, rfl, hR⟩
theorem enum_tuple {prog : Program} {w : World} {A : Around} {E : Value → Shared → Prop} {z : Shared} {a : Addr} {items : Array Value} {Q : Value → Shared → Prop} (hT : z.heap.IsTuple a items)
    (k : ∀ h2, IsEnum h2 (z.heap.objs.size + 1) z.heap.objs.size 0 .none → h2.IsTupleIter z.heap.objs.size a 0 → (∀ b o, z.heap.get? b = some o → h2.get? b = some o) → Q (.ref (z.heap.objs.size + 1)) { z with heap := h2 }) :
    wpAny (model prog w) A (call (.type "enumerate") [.ref a]) Q E z := by
  refine callType_new F.called_enumerate (by decide) (F.typeCall_enumerate_1 _) (F.newCall_enumerate_1 _) (fun ob => F.args_object_init_2 ob _) F.entry_enumerate_new (enum_made a items) ⟨hT, ?_⟩
  have sz : (z.heap.push { cls := .type "tuple_iterator", data := .fields #[.ref a, .int 0 0] }).objs.size = z.heap.objs.size + 1 := Heap.size_push ..
  show _ ∧ _
  rw [sz]
  have isE : IsEnum ((z.heap.push { cls := .type "tuple_iterator", data := .fields #[.ref a, .int 0 0] }).push { cls := .type "enumerate", data := .fields #[.none, .bool false, .ref z.heap.objs.size, rawInt 0, .none, .none] }) (z.heap.objs.size + 1) z.heap.objs.size 0 .none := by
    have g := Heap.get?_push_size (z.heap.push { cls := .type "tuple_iterator", data := .fields #[.ref a, .int 0 0] }) (o := { cls := .type "enumerate", data := .fields #[.none, .bool false, .ref z.heap.objs.size, rawInt 0, .none, .none] }) rfl
    rw [sz] at g
    exact g
  exact ⟨⟨_, isE, rfl⟩, k _ isE ⟨_, Heap.get?_push_of_some _ (Heap.get?_push_size _ rfl), rfl, rfl⟩ fun b o q => Heap.get?_push_of_some _ (Heap.get?_push_of_some _ q)⟩

/-- the tuple at a, each item in a new pair with its place -/
def Jte (K : PySem.W.Frag) (a : Addr) (xs : List V) : It :=
  ⟨fun i H => SqT K H a xs ∧ i < xs.length, fun i H v H' => ∃ T x, v = .ref T ∧ H T = none ∧ H' = upd H T (.tup [.int (i : Nat), x]) ∧ xs[i]? = some x, fun i H => SqT K H a xs ∧ xs.length ≤ i⟩
theorem turn_enumT {P : Program} {w : World} {K : PySem.W.Frag} {elts : List Expr} {kk : Nat} {tpos : Pos} {a e it : Addr} {xs : List V} (n1 : e ≠ it) (n2 : a ≠ e) (n3 : a ≠ it) :
    Turn P w K (.Tuple elts kk tpos) (Jte K a xs) [e, it] e (fun i h => (∃ old, IsEnum h e it ((i : Nat) : Int) old) ∧ h.IsTupleIter it a i ∧ i ≤ xs.length) where
  mem := List.mem_cons_self
  obj := by
    rintro i h ⟨⟨old, he⟩, ⟨o, ho, hc, hd⟩, _⟩ b hb
    rcases List.mem_cons.mp hb with z | hb
    · subst z
      exact ⟨_, he, fun v q => nomatch q⟩
    · have z : b = it := by simpa using hb
      exact ⟨o, by rw [z]; exact ho, fun v q => by rw [hd] at q; cases q⟩
  keep := by
    rintro i h h' ⟨⟨old, he⟩, hi, hl⟩ k
    exact ⟨⟨old, k e List.mem_cons_self _ he⟩, hi.at fun o q => k it (by simp) o q, hl⟩
  item := by
    intro X eP ew eK hc i pins s σ H E I hf st hg
    subst eP ew eK
    obtain ⟨⟨old, he⟩, hit, _⟩ := st
    obtain ⟨hq, hi⟩ := hg
    obtain ⟨its, rv, ht, hz⟩ := I.tuple hq
    have hlen : its.toArray.size = xs.length := by rw [List.size_toArray]; exact rv.length.symm
    have hh : X.A.in1.handled = none := I.ok.hd hc
    have DT := Draws.tuple (prog := X.prog) (w := X.w) hh it a n3 its.toArray
    refine wpAny_pyNext_enum_itemD DT he ⟨hit, ht⟩ (by rw [hlen]; exact hi) n1 (by simp [n1, Ne.symm n2]) fun x h2 tk hx ho hst hT hsz hk => ?_
    refine ⟨_, rfl, wpAny_letOwnedTupleGo_enum (s := { s with heap := h2, toks := tk + 1 }) ho fun h3 he3 sb => ?_⟩
    have hel : e < s.heap.objs.size := Heap.lt_size he
    have hil : it < s.heap.objs.size := by
      obtain ⟨o, q, _⟩ := hit
      exact Heap.lt_size q
    have hT3 : h3.get? s.heap.objs.size = some { cls := .type "tuple", data := .seq #[.int i tk, x] } := (sb.2 _ (Nat.ne_of_gt hel)).trans hT
    obtain ⟨v, hv⟩ : ∃ v, xs[i]? = some v := ⟨_, List.getElem?_eq_getElem hi⟩
    obtain ⟨u, hu, ru⟩ := rv.get hv
    have hx2 : its[i]? = some x := by simpa using hx
    have eu : u = x := Option.some.inj (hu.symm.trans hx2)
    rw [eu] at ru
    have ob : ObjOk X.prog X.w (upd H s.heap.objs.size (.tup [.int (i : Nat), v])) h3 s.heap.objs.size (.tup [.int (i : Nat), v]) :=
      ⟨(by decide : 2 ≤ sizeLine), [.int i tk, x], .cons ⟨_, rfl⟩ (.cons ru .nil), ⟨_, hT3, rfl, _, rfl⟩⟩
    have J : Inv X pins σ (upd H s.heap.objs.size (.tup [.int (i : Nat), v])) { s with heap := h3, toks := tk + 1 } := by
      refine I.turnedNew (ch := [e, it]) (fun b o hb q => ?_) hf (Nat.le_refl _) ob
      have b1 : b ≠ e := fun z => hb (by rw [z]; exact List.mem_cons_self)
      have b2 : b ≠ it := fun z => hb (by rw [z]; simp)
      exact (sb.2 b b1).trans (hk b o b1 b2 q)
    refine ⟨.ref s.heap.objs.size, _, J, rfl, ⟨_, v, rfl, I.hok.fresh (Nat.le_refl _), rfl, hv⟩, ⟨⟨x, ?_⟩, hst.1.at fun o q => (sb.2 it (Ne.symm n1)).trans q, hi⟩, fun b hb => ?_⟩
    · have e1 : ((i + 1 : Nat) : Int) = (i : Int) + 1 := by omega
      rw [e1]
      exact he3
    · have lt : b < s.heap.objs.size := by
        rcases List.mem_cons.mp hb with z | hb
        · rw [z]; exact hel
        · have z : b = it := by simpa using hb
          rw [z]; exact hil
      rw [upd_ne (Nat.ne_of_lt lt)]
      exact (hf b hb).1
  done := by
    intro X eP ew eK hc i pins s σ H E I hf st hg
    subst eP ew eK
    obtain ⟨⟨old, he⟩, hit, hl⟩ := st
    obtain ⟨hq, hi⟩ := hg
    obtain ⟨its, rv, ht, hz⟩ := I.tuple hq
    have hlen : its.toArray.size = xs.length := by rw [List.size_toArray]; exact rv.length.symm
    have hh : X.A.in1.handled = none := I.ok.hd hc
    have DT := Draws.tuple (prog := X.prog) (w := X.w) hh it a n3 its.toArray
    have ei : i = its.toArray.size := by omega
    subst ei
    obtain ⟨f0, f1, f2, f3, f4, f5⟩ := hf it (by simp)
    exact wpAny_pyNext_enum_endD DT he ⟨hit, ht⟩ fun h2 eb => ⟨rfl, I.turned (t' := s.toks) (fun b o hb q => eb b o hb q) f0 f1 f3 f4 f5⟩
  self := by
    rintro A i s Q E ⟨⟨old, he⟩, _⟩ hQ
    exact wpAny_pyIter_enum he hQ
def iEnumT (K : PySem.W.Frag) (ta : TA) : TI := fun σ H R => ta σ H fun vs H1 => ∃ a xs, vs = [.ref a] ∧ SqT K H1 a xs ∧ R (Jte K a xs) H1
/-- enumerate(t), t a tuple -/
theorem pi_enumT {X : Cx} {e : Expr} {ta : TA} {p pos tpos : Pos} {elts : List Expr} {kk : Nat} (hg : Gl X "enumerate") (hm : X.mg "enumerate" = none) (ha : PA X [e] ta) (hs : starEach [e] X.env = [(false, eval e X.env)] := by rfl) :
    PI X (.Tuple elts kk tpos) (.Call (.Name "enumerate" p) [e] [] pos) (iEnumT X.K ta) := by
  refine ⟨fun pins z σ H R I h => ?_⟩
  refine Call_ (ld_blt I hg hm boot_enumerate (PyProof.Rows.callWith_type1 (thn (ha.run pos pins z σ H _ I h) fun us z1 ⟨vs, H1, I1, r1, q1⟩ => ?_) hs rfl))
  obtain ⟨a, xs, rfl, hq, q⟩ := q1
  cases r1 with
  | cons r rr =>
    cases rr
    cases r
    obtain ⟨its, rv, ht, hz⟩ := I1.tuple hq
    have al : a < z1.heap.objs.size := ht.lt
    refine enum_tuple ht fun h2 he hit hk => wpAny_pyIter_enum he ?_
    have I2 : Inv X pins σ H1 { z1 with heap := h2 } := I1.kept (t' := z1.toks) hk
    refine ⟨z1.heap.objs.size + 1, [z1.heap.objs.size + 1, z1.heap.objs.size], _, _, H1, rfl, I2, turn_enumT (a := a) (xs := xs) (Nat.succ_ne_self _) (Nat.ne_of_lt (Nat.lt_succ_of_lt al)) (Nat.ne_of_lt al), ⟨⟨.none, he⟩, hit, Nat.zero_le _⟩, fun b hb => ?_, q⟩
    have hle : z1.heap.objs.size ≤ b := by
      rcases List.mem_cons.mp hb with c | hb
      · rw [c]; exact Nat.le_succ _
      · have c : b = z1.heap.objs.size := by simpa using hb
        rw [c]; exact Nat.le_refl _
    exact I1.fpOk hle (I1.hok.fresh hle)
theorem walk_enumT {K : PySem.W.Frag} {a : Addr} {xs : List V} : Walk (Jte K a xs) xs.length (fun H => SqT K H a xs) (YPair (fun i => some (.int (i : Nat))) (fun i => xs[i]?)) := by
  refine ⟨fun i H hi q => ⟨q, hi⟩, fun H q => ⟨q, Nat.le_refl _⟩, fun i H v H' _ q y => ?_⟩
  obtain ⟨T, x, h1, h2, h3, h4⟩ := y
  exact ⟨T, .int (i : Nat), x, h1, h2, h3, rfl, h4⟩
end K19

set_option Elab.async false
set_option linter.all false
set_option maxRecDepth 100000
set_option maxHeartbeats 4000000
/-! Rules of our own: tuple * 1, repr of a tuple of ones. -/
namespace K19
open PySem PySem.Spec PyProof.Rows L2

/-! ### tuple * 1 -/
theorem tup_one (a : Addr) (items : Array Value) (n : Nat) (dd : Option Addr) (sl : Array (Option Value)) (u : Tok) :
    Meets (Builtin.«tuple.__mul__» ⟨[.ref a, .int 1 u], []⟩) (fun _ R z => z.heap.get? a = some { cls := .type "tuple", dict := dd, data := .seq items n, slots := sl } ∧ R (.ok (.ret (.ref a))) z) := by
  refine .of_wp fun pr wo Ar Rs z hz => ?_
  obtain ⟨zh, zg, zd, zt, zo⟩ := z
  obtain ⟨ha, hR⟩ := hz
  have idx := AutoSeq1.idx_int
  have c0 : (decide ((1 : Int) < -(2 ^ 63)) || decide ((1 : Int) ≥ 2 ^ 63)) = false := by decide
  have c1 : (items.isEmpty || (1 : Int) == 1) = true := by rw [beq_self_eq_true, Bool.or_true]
  wp_walk using AutoSeq1.wpAny_loadPart' ha
  repeat (first
    | (rw [if_pos c1]; wp_walk using AutoSeq1.wpAny_loadPart' ha)
    | (refine wpAny_ite_true (decide_eq_true (by exact c1)) ?_; wp_walk using AutoSeq1.wpAny_loadPart' ha)
    | (refine wpAny_ite_false (decide_eq_false (by rw [c0]; exact Bool.false_ne_true)) ?_; wp_walk using AutoSeq1.wpAny_loadPart' ha))
  exact ⟨_, rfl, hR⟩
def rRep1 (K : PySem.W.Frag) : R2 := fun x y H Q => ∃ a xs, x = .ref a ∧ y = .int 1 ∧ SqT K H a xs ∧ Q (.ref a) H
theorem op_rep1 {X : Cx} : OpR X (binaryOp .Mult) (rRep1 X.K) := by
  intro pins z σ H x y v u Q I rx ry h
  obtain ⟨a, xs, rfl, rfl, hT, q⟩ := h
  cases rx
  obtain ⟨t, rfl⟩ := ry
  obtain ⟨its, r, ⟨⟨cls, dd, data, sl⟩, ho, hc, n, hd⟩, hs⟩ := I.tuple hT
  simp only at hc hd
  subst hc hd
  have ti := typeIs_int z 1 t
  refine wpAny_binaryOp_repeat_ref (T := "tuple") (U := "int") (by decide) ⟨_, ho, rfl⟩ (fun s' => typeIs_int s' 1 t) noFill_tuple_mul F.fills_int_mul F.slot_int_rmul repeat_tuple F.slot_int_index.lookup ?_
  refine call_meets F.slot_int_rmul ti F.entry_int_rmul (F.args_int_rmul_2 _ _) (int_rmul_tuple 1 t a its.toArray n dd sl) ⟨ho, rfl, ⟨_, ho, rfl⟩, ?_⟩
  exact call_meets F.slot_tuple_mul ⟨_, ho, rfl⟩ F.entry_tuple_mul (F.args_tuple_mul_2 _ _) (tup_one a its.toArray n dd sl t) ⟨ho, .ref a, H, I, rfl, q⟩

/-! ### repr -/
/-- the text of a tuple of ints -/
def shownT (ns : List Int) : Str := (PyData.tuple (ns.map PyData.int)).shown
theorem ones_shown : ∀ {ns : List Int}, (∀ n ∈ ns, n = 1 ∨ n = -1) → PyData.showableAll (ns.map PyData.int) = true ∧ PyData.hasDictAll (ns.map PyData.int) = false ∧ piled (PyData.shownAll (ns.map PyData.int)) ≤ 4 * ns.length
  | [], _ => ⟨rfl, rfl, Nat.zero_le _⟩
  | n :: ns, h => by
    obtain ⟨h1, h2, h3⟩ := ones_shown (ns := ns) fun m hm => h m (List.mem_cons_of_mem _ hm)
    have e1 : PyData.showable (.int n) = true ∧ (PyData.shown (.int n)).length ≤ 2 := by
      rcases h n List.mem_cons_self with e | e <;> subst e <;> exact ⟨by decide +kernel, by decide +kernel⟩
    refine ⟨?_, ?_, ?_⟩
    · show (PyData.showable (.int n) && PyData.showableAll (ns.map PyData.int)) = true
      rw [e1.1, h1]
      rfl
    · show (false || PyData.hasDictAll (ns.map PyData.int)) = false
      rw [h2]
      rfl
    · show piled (PyData.shown (.int n) :: PyData.shownAll (ns.map PyData.int)) ≤ _
      rw [piled_cons, List.length_cons]
      have := e1.2
      omega
def rRepr (K : PySem.W.Frag) : List V → Hp → VK → Prop := fun xs H Q => (xs = [.non] ∧ Q (.str "None") H) ∨ ∃ (a : Addr) (ns : List Int), xs = [.ref a] ∧ SqT K H a (ns.map V.int) ∧ (∀ n ∈ ns, n = 1 ∨ n = -1) ∧ ns.length ≤ 1000 ∧ Q (.str (shownT ns)) H
theorem cr_repr {X : Cx} (hg : X.A.guards = some []) (hu : X.A.units + 64 < cLine) : CallR X (.builtin "repr") (rRepr X.K) := by
  intro pins z σ H xs us Q I r h
  rcases h with ⟨rfl, q⟩ | ⟨a, ns, rfl, hT, h1, hl, q⟩
  · obtain ⟨u, rfl, hu⟩ := vals1 r
    cases (show u = Value.none from hu)
    exact PySem.P.repr_of_none ⟨.str _, H, I.tok _, ⟨_, rfl⟩, q⟩
  · obtain ⟨u, rfl, hu'⟩ := vals1 r
    cases (show u = Value.ref a from hu')
    obtain ⟨s1, s2, s3⟩ := ones_shown h1
    obtain ⟨as, hR⟩ := Dp.reads I (.tuple (ns.map PyData.int)) (.ref a) (.ref a) (.tup hT (dp_ints ns)) rfl
    have hd : (PyData.tuple (ns.map PyData.int)).depth = 1 := by
      show PyData.depthAll (ns.map PyData.int) + 1 = 1
      rw [depth_ints]
    refine repr_of_reads' hR s1 (fun c => by have c2 : PyData.hasDictAll (ns.map PyData.int) = true := c; rw [s2] at c2; cases c2) hg (by rw [hd]; omega) (fun _ _ e => e) (fun h' t tk hk => ⟨.str _, H, I.kept hk, ⟨_, rfl⟩, q⟩) ?_
    have t1 := fmt_text (PyData.shownAll (ns.map PyData.int))
    show (tupleText (PyData.shownAll (ns.map PyData.int))).length ≤ sizeLine
    have t2 : 10000 ≤ sizeLine := by decide
    omega
end K19

set_option Elab.async false
set_option linter.all false
set_option maxRecDepth 100000
set_option maxHeartbeats 4000000
/-! The program: gates, ratios, walks. -/
namespace K19
open PySem L2

theorem lk_rooms {R : Nat} {D : Addr} : List.lookup ("rooms" : Str) [(("rooms" : Str), V.int (R : Int)), (("doors" : Str), V.ref D)] = some (.int (R : Int)) := by
  simp [List.lookup]
theorem lk_doors {R : Nat} {D : Addr} : List.lookup ("doors" : Str) [(("rooms" : Str), V.int (R : Int)), (("doors" : Str), V.ref D)] = some (.ref D) := by
  have h : (("doors" : Str) == ("rooms" : Str)) = false := by decide +kernel
  simp [List.lookup, h]
/-- a bare walk as a value -/
def IsWalk (H : Hp) (a : Addr) (r : Int) (ps : List Stp) : Prop := ∃ Z S, H a = some (.tup [.int r, .ref Z, .ref S]) ∧ H Z = some (.tup (List.replicate (ps.length + 1) (.int 0))) ∧ IsStps H S ps
theorem IsWalk.tk {H H' : Hp} {a : Addr} {r : Int} {ps : List Stp} (h : IsWalk H a r ps) (k : TK H H') : IsWalk H' a r ps := by
  obtain ⟨Z, S, h1, h2, h3⟩ := h
  exact ⟨Z, S, k.1 _ _ h1, k.1 _ _ h2, h3.tk k⟩
def spBare : Sp := fun vs H Q _ => ∃ (S : Addr) (r : Int) (ps : List Stp), vs = [.int r, .ref S] ∧ IsStps H S ps ∧ 1 ≤ ps.length ∧ ps.length < 900 ∧ ∀ (H' : Hp) (q : Addr), Same H H' → IsWalk H' q r ps → Q (.ref q) H'
def turnBack (ps : List Stp) : List Stp := ps.reverse.map fun p => (p.1, 1 - p.2)
def spTurned : Sp := fun vs H Q _ => ∃ (S : Addr) (ps : List Stp), vs = [.ref S] ∧ IsStps H S ps ∧ ps.length < 900 ∧ ∀ (H' : Hp) (q : Addr), Same H H' → IsStps H' q (turnBack ps) → Q (.ref q) H'

section
variable {P : Program} {w : World} {K : PySem.W.Frag} {mg : Str → Option Value} {base : Heap} {f C : Addr} {fd : FuncData}
theorem ok_gate_of (F : Fun K "gate_of" "gate_of" s_p_gate_of f fd) (T : HTxt K mg C) : FnOk P w K mg base CX0 1 f fd a_p_gate_of (spGateOf C) := by
  refine F.ok sc_p_gate_of (fun vs H Q E h => ?_) (fun cdv A outer s H vs Q E hr h => ?_)
  · obtain ⟨h, p, R, ds, st, rfl, _⟩ := h
    rfl
  · obtain ⟨h, p, R, ds, st, rfl, ⟨dx, D, hh, vs, hD, hP⟩, hp, ⟨h0, h1, h2⟩, k⟩ := h
    refine ⟨_, pss_cons (ps_asg (pe_ix ix_tup (pe_fld (pv 0) rfl) (pe_ix ix_tup (pv 1) pe_int (fun _ _ => rfl)) (fun _ _ => rfl)) (pg_tup rfl (pgs_cons (pg_name (i := 2) sc_p_gate_of.nd rfl (Or.inl rfl)) (pgs_cons (pg_name (i := 3) sc_p_gate_of.nd rfl (Or.inl rfl)) (pgs_cons (pg_name (i := 4) sc_p_gate_of.nd rfl (Or.inl rfl)) (pgs_cons (pg_name (i := 5) sc_p_gate_of.nd rfl (Or.inl rfl)) pgs_nil))))))
      (pss_one (ps_ret (pe_ifExp (pt_cmpR op_eq (pe_ix ix_tup (pv 1) pe_int (fun _ _ => rfl)) pe_int (nomark _)) (pe_tup (pa_cons (pv 2) (pa_cons (pv 3) (pa_cons (pv 4) (pa_cons (pv 5) pa_nil))))) (pe_tup (pa_cons (pv 4) (pa_cons (pv 5) (pa_cons (pv 2) (pa_cons (pv 3) pa_nil)))))))), ?_⟩
    obtain ⟨a, ha, hda⟩ := door_at hP h0 h1
    refine ⟨_, rfl, h, C, dx, _, _, rfl, hh, T.cl, T.nD, lk_doors, _, rfl, p, _, _, _, rfl, rfl, SqT.of hp, rfl, D, vs, _, _, rfl, rfl, SqT.of hD, ha, ?_⟩
    refine ⟨a, _, rfl, SqT.of hda, rfl, ⟨_, _, rfl, _, _, rfl, _, _, rfl, _, _, rfl, rfl, ?_⟩⟩
    refine ⟨_, rfl, p, _, _, _, rfl, rfl, SqT.of hp, rfl, rfl, _, rfl, ite2 (fun c => ?_) (fun c => ?_)⟩
    · have c2 : st.2 = 0 := by simpa using c
      refine ⟨_, rfl, _, rfl, _, rfl, _, rfl, (by decide : 4 ≤ sizeLine), fun q hq => ?_⟩
      have k := k q hq
      unfold gate at k
      rw [if_pos c2] at k
      exact k
    · have c2 : ¬ st.2 = 0 := fun z => c (by rw [z]; rfl)
      refine ⟨_, rfl, _, rfl, _, rfl, _, rfl, (by decide : 4 ≤ sizeLine), fun q hq => ?_⟩
      have k := k q hq
      unfold gate at k
      rw [if_neg c2] at k
      exact k
theorem ok_ratio_over (F : Fun K "ratio_over" "ratio_over" s_p_ratio_over f fd) (DG : DefAt P w K mg base CX0 1 "gate_of" a_p_gate_of (spGateOf C)) (DL : DefAt P w K mg base CX0 2 "lowest" a_p_lowest spLow) : FnOk P w K mg base CX0 3 f fd a_p_ratio_over (spRatioOver C) := by
  refine F.ok sc_p_ratio_over (fun vs H Q E h => ?_) (fun cdv A outer s H vs Q E hr h => ?_)
  · obtain ⟨h, S, R, ds, ps, rfl, _⟩ := h
    rfl
  · obtain ⟨h, S, R, ds, ps, rfl, hD, hS, hok, hst, k⟩ := h
    have hr1 : Room 1 _ := hr.mono (by decide)
    obtain ⟨us, hus, hPs⟩ := id hS
    refine ⟨_, pss_cons (ps_asg (pe_tup (pa_cons pe_int (pa_cons pe_int pa_nil))) (pg_tup rfl (pgs_cons (pg_name (i := 2) sc_p_ratio_over.nd rfl (Or.inl rfl)) (pgs_cons (pg_name (i := 3) sc_p_ratio_over.nd rfl (Or.inl rfl)) pgs_nil))))
      (pss_cons (ps_for PassesOwn.never rfl (pi_tup (pv 1)) (pg_name (i := 4) sc_p_ratio_over.nd rfl (Or.inl rfl))
        (pss_cons (ps_set (i := 5) sc_p_ratio_over.nd rfl (Or.inl rfl) (pe_def DG hr1 rfl (pa_cons (pv 0) (pa_cons (pv 4) pa_nil))))
        (pss_one (ps_asg (pe_def DL hr rfl (pa_cons (pe_op op_mul (pv 2) (pe_ix ix_tup (pv 5) pe_int (fun _ _ => rfl))) (pa_cons (pe_op op_mul (pv 3) (pe_ix ix_tup (pv 5) pe_int (fun _ _ => rfl))) pa_nil)))
          (pg_tup rfl (pgs_cons (pg_name (i := 2) sc_p_ratio_over.nd rfl (Or.inl rfl)) (pgs_cons (pg_name (i := 3) sc_p_ratio_over.nd rfl (Or.inl rfl)) pgs_nil)))))))
      (pss_one (ps_ret (pe_tup (pa_cons (pv 2) (pa_cons (pv 3) pa_nil)))))), ?_⟩
    refine ⟨(by decide : 2 ≤ sizeLine), fun p0 hp0 => ?_⟩
    refine ⟨p0, _, rfl, SqT.of upd_same, rfl, _, _, rfl, _, _, rfl, rfl, ?_⟩
    refine ⟨_, rfl, S, rfl, ⟨_, SqT.of (same_upd hp0 _ _ hus)⟩, for_tup (K := K) (a := S) (xs := us) (fun i σ H' => ∃ (t b : Int) (v4 v5 : Option V), σ = [some (.ref h), some (.ref S), some (.int t), some (.int b), v4, v5] ∧ Same H H' ∧ 0 < b ∧ t ≠ 0 ∧ Nat.gcd t.natAbs b.natAbs = 1 ∧ t.sign = psgn ds (ps.take i))
      ⟨1, 1, none, none, rfl, same_upd hp0, by decide, by decide, rfl, rfl⟩ (fun i σ H' _ ⟨_, _, _, _, _, e, _⟩ => SqT.of (e _ _ hus)) ?_ ?_⟩
    · rintro i x σ H1 hx ⟨t, b, v4, v5, rfl, e1, b0, t0, hc, hs⟩
      obtain ⟨st, hp, pa, rfl, hpa⟩ := pair_at' hPs hx
      have hso := hst st (List.mem_of_getElem? hp)
      have hRo := gate_ok hok hso
      obtain ⟨n1, n2, n3, L, n4⟩ := ratio_step (f := 0) (s := 0) hRo b0 t0 hc hs
      obtain ⟨_, _, _, _, f0, s0, f1, f2, s1, s2⟩ := hRo
      refine ⟨_, rfl, _, rfl, h, pa, R, ds, st, rfl, hD.tk (tk_of e1), e1 _ _ hpa, hso, fun g hg => ?_⟩
      have e2 := same_upd (o := .tup (doorV (gate ds st))) hg
      have g2 : (upd H1 g (.tup (doorV (gate ds st)))) g = some (.tup (doorV (gate ds st))) := upd_same
      generalize upd H1 g (.tup (doorV (gate ds st))) = H2 at e2 g2 ⊢
      refine ⟨_, rfl, _, rfl, g, _, _, _, rfl, rfl, SqT.of g2, rfl, _, _, rfl, rfl, .inr ⟨by omega, by omega⟩, _, rfl, _, rfl, g, _, _, _, rfl, rfl, SqT.of g2, rfl, _, _, rfl, rfl, .inr ⟨by omega, by omega⟩, ?_⟩
      refine ⟨_, _, rfl, n1, n2, n3, fun q3 hq3 => ?_⟩
      refine ⟨q3, _, rfl, SqT.of upd_same, rfl, _, _, rfl, _, _, rfl, rfl, ?_⟩
      exact ⟨_, _, _, _, rfl, (e1.trans e2).trans (same_upd hq3), L.pos, L.ne, L.cop, by rw [take_more hp]; exact n4⟩
    · rintro σ H1 ⟨t, b, v4, v5, rfl, e1, b0, t0, hc, hs⟩
      rw [hPs.length, List.take_length] at hs
      exact ⟨_, rfl, _, rfl, (by decide : 2 ≤ sizeLine), fun q hq => k _ q t b (e1.trans (same_upd hq)) upd_same t0 hs⟩
theorem ok_bare_walk (F : Fun K "bare_walk" "bare_walk" s_p_bare_walk f fd) (B : Blt mg) : FnOk P w K mg base CX0 1 f fd a_p_bare_walk spBare := by
  refine F.ok sc_p_bare_walk (fun vs H Q E h => ?_) (fun cdv A outer s H vs Q E hr h => ?_)
  · obtain ⟨S, r, ps, rfl, _⟩ := h
    rfl
  · obtain ⟨S, r, ps, rfl, hS, l1, l2, k⟩ := h
    refine ⟨_, pss_one (ps_ret (pe_tup (pa_cons (pv 0) (pa_cons (pe_op op_repT (pe_tup (pa_cons pe_int pa_nil)) (pe_op op_add (pe_callB call_len_seq (by rfl) B.len PySem.boot_len (pa_cons (pv 1) pa_nil)) pe_int)) (pa_cons (pe_callTy call_tuple_of (by rfl) B.tuple (by decide +kernel) (pa_cons (pv 1) pa_nil)) pa_nil))))), ?_⟩
    obtain ⟨vs, hvs, hP, hvl⟩ := hS.len
    refine ⟨_, rfl, (by decide : 1 ≤ sizeLine), fun t ht => ?_⟩
    have e1 := same_upd (o := .tup [V.int 0]) ht
    have g1 : (upd H t (.tup [V.int 0])) t = some (.tup [V.int 0]) := upd_same
    have hvs1 := e1 _ _ hvs
    generalize upd H t (.tup [V.int 0]) = H1 at e1 g1 hvs1 ⊢
    refine ⟨_, rfl, S, vs, rfl, .inr (SqT.of hvs1), _, _, rfl, rfl, t, _, [V.int 0], rfl, rfl, SqT.of g1, List.cons_ne_nil _ _, by omega, by omega, (by decide : 1 ≤ 1000), fun z hz => ?_⟩
    have ez : (List.replicate ((vs.length : Int) + 1).toNat [V.int 0]).flatten = List.replicate (ps.length + 1) (V.int 0) := by
      rw [hvl, show ((ps.length : Int) + 1).toNat = ps.length + 1 by omega]
      have : ∀ n : Nat, (List.replicate n [V.int 0]).flatten = List.replicate n (V.int 0) := fun n => by
        induction n with
        | zero => rfl
        | succ n ih =>
          rw [List.replicate_succ, List.flatten_cons, ih]
          rfl
      exact this _
    rw [ez]
    have e2 := same_upd (o := .tup (List.replicate (ps.length + 1) (V.int 0))) hz
    have g2 : (upd H1 z (.tup (List.replicate (ps.length + 1) (V.int 0)))) z = some (.tup (List.replicate (ps.length + 1) (V.int 0))) := upd_same
    have hvs2 := e2 _ _ hvs1
    generalize upd H1 z (.tup (List.replicate (ps.length + 1) (V.int 0))) = H2 at e2 g2 hvs2 ⊢
    refine ⟨_, rfl, S, vs, rfl, .inr ⟨SqT.of hvs2, (by decide : 3 ≤ sizeLine), fun q hq => ?_⟩⟩
    have e3 := same_upd (o := .tup [V.int r, V.ref z, V.ref S]) hq
    exact k _ q ((e1.trans e2).trans e3) ⟨z, S, upd_same, e3 _ _ g2, hS.tk (tk_of ((e1.trans e2).trans e3))⟩
end
end K19

set_option Elab.async false
set_option linter.all false
set_option maxRecDepth 100000
set_option maxHeartbeats 4000000
/-! The program: walks turned back, the search for all ways. -/
namespace K19
open PySem L2

theorem walk_revT {K : PySem.W.Frag} {a : Addr} {xs : List V} : Walk (RT.ItvT K a xs.length) xs.length (fun H => SqT K H a xs) (YAt xs.reverse) := by
  refine ⟨fun i H hi q => ⟨hi, xs, xs[xs.length - 1 - i]'(by omega), q, List.getElem?_eq_getElem _⟩, fun H q => Nat.le_refl _, fun i H x H' hi q y => ⟨y.1, ?_⟩⟩
  rw [List.getElem?_reverse hi]
  exact y.2 xs q
theorem pair_rev {α β : Type} {F : α → β → Prop} : ∀ {l : List α} {m : List β}, Paired F l m → Paired F l.reverse m.reverse
  | _, _, .nil => .nil
  | _, _, .cons h t => by
    rw [List.reverse_cons, List.reverse_cons]
    exact pair_app (pair_rev t) (.cons h .nil)

/-- ways_out(house) -/
def spWaysOut (C : Addr) : Sp := fun vs H Q _ => ∃ (h : Addr) (R : Nat) (ds : List Dr), vs = [.ref h] ∧ IsHouse C H h R ds ∧ House R ds ∧
  ∀ (H' : Hp) (kd : Addr) (kvs : List (Key × V)) (es : List (Int × List Stp)), Same H H' → H' kd = some (.dK kvs) → KRel (IsWay H') kvs es → Found ds R 0 es → (∀ r : Int, 0 ≤ r → r < R → Seen es r) → Q (.ref kd) H'

section
variable {P : Program} {w : World} {K : PySem.W.Frag} {mg : Str → Option Value} {base : Heap} {f C : Addr} {fd : FuncData}
theorem ok_turned (F : Fun K "turned" "turned" s_p_turned f fd) (B : Blt mg) : FnOk P w K mg base CX0 1 f fd a_p_turned spTurned := by
  refine F.ok sc_p_turned (fun vs H Q E h => ?_) (fun cdv A outer s H vs Q E hr h => ?_)
  · obtain ⟨S, ps, rfl, _⟩ := h
    rfl
  · obtain ⟨S, ps, rfl, hS, l2, k⟩ := h
    obtain ⟨us, hus, hP, hul⟩ := hS.len
    refine ⟨_, pss_one (ps_ret (pe_callTy call_tuple_of (by rfl) B.tuple (by decide +kernel) (pa_cons
      (pe_lc (own := [("at", 1), ("side", 2)]) (tt := tYes) rfl sc_p_turned.nd (RT.pi_revA (by rfl) B.reversed (pv 0)) (blkOk_by (N := n_p_turned) (sc := defScope s_p_turned) (by decide +kernel))
        (fun _ _ _ _ _ => by exact (pgT K (n := 2) (pg_tup rfl (pgs_cons (pg_name (i := 1) sc_p_turned.nd rfl (Or.inl rfl)) (pgs_cons (pg_name (i := 2) sc_p_turned.nd rfl (Or.inl rfl)) pgs_nil))))) (fun _ _ _ _ _ => pts_nil)
        (fun _ _ _ _ _ => pe_tup (pa_cons (pv 1) (pa_cons (pe_op op_sub pe_int (pv 2)) pa_nil)))) pa_nil))), ?_⟩
    have hPr := pair_rev hP
    refine ⟨_, rfl, S, us, rfl, .inr ⟨SqT.of hus, fun L hL => lc_it walk_revT (fun i H' => Same H H' ∧ ∃ ws : List V, H' L = some (.lst ws) ∧ ws.length ≤ i ∧ Paired (IsStp H') ws ((ps.reverse.take i).map fun p => (p.1, 1 - p.2)))
      ⟨same_upd hL, [], upd_same, Nat.le_refl _, .nil⟩ (fun i H' _ ⟨e, _⟩ => SqT.of (e _ _ hus)) ?_ ?_⟩⟩
    · rintro i x H1 H1' hi ⟨e1, ws, hws, hwl, hPw⟩ ⟨rfl, hx⟩
      obtain ⟨st, hst, a, rfl, ha⟩ := pair_at' hPr hx
      refine ⟨a, _, rfl, SqT.of (e1 _ _ ha), rfl, ⟨_, _, rfl, _, _, rfl, rfl, rfl, ?_⟩⟩
      refine ⟨_, rfl, _, rfl, _, _, rfl, rfl, (by decide : 2 ≤ sizeLine), fun t ht => ?_⟩
      have e2 := same_upd (o := .tup [V.int st.1, V.int (1 - st.2)]) ht
      have g2 : (upd H1' t (.tup [V.int st.1, V.int (1 - st.2)])) t = some (.tup [V.int st.1, V.int (1 - st.2)]) := upd_same
      have hws2 := e2 _ _ hws
      refine ⟨ws, hws2, small_line (by omega), same_write (e1.trans e2) hL, _, upd_same, by rw [List.length_append, List.length_singleton]; omega, ?_⟩
      rw [take_more hst, List.map_append]
      exact stps_snoc hPw ((tk_of e2).trans (tk_lst hws2)) ⟨t, rfl, (tk_lst hws2).1 _ _ g2⟩
    · rintro H1 ⟨e1, ws, hws, hwl, hPw⟩
      rw [show us.length = ps.reverse.length by rw [hul, List.length_reverse], List.take_length] at hPw
      refine ⟨L, ws, rfl, .inl ⟨SqL.of hws, fun q hq => ?_⟩⟩
      have e2 := same_upd (o := .tup ws) hq
      exact k _ q (e1.trans e2) ⟨ws, upd_same, stps_tk hPw (tk_of e2)⟩
end
end K19

set_option Elab.async false
set_option linter.all false
set_option maxRecDepth 100000
set_option maxHeartbeats 4000000
/-! The program's search for all ways. -/
namespace K19
open PySem L2

/-- a comprehension's outer walk -/
theorem outer_it {J : It} {n : Nat} {G : Hp → Prop} {Y : Nat → Hp → V → Hp → Prop} (w : Walk J n G Y) {H0 : Hp} {Qd : Hp → Prop} {B : V → Hp → (Hp → Prop) → Prop} (Pv : Nat → Hp → Prop) (h0 : Pv 0 H0) (hG : ∀ i H, i ≤ n → Pv i H → G H)
    (hs : ∀ i x H H', i < n → Pv i H → Y i H x H' → B x H' (Pv (i + 1))) (hd : ∀ H, Pv n H → Qd H) :
    ∃ W : Nat → Nat → Hp → Prop, (∃ m, W 0 m H0) ∧ ∀ i m H, W i m H → (J.stop i H ∧ Qd H) ∨ (J.go i H ∧ ∃ Nx : Hp → Prop, (∀ H', Nx H' → ∃ m', m' < m ∧ W (i + 1) m' H') ∧ ∀ x H', J.yld i H x H' → B x H' Nx) := by
  refine ⟨fun i m H => m = n - i ∧ i ≤ n ∧ Pv i H, ⟨n, rfl, Nat.zero_le _, h0⟩, fun i m H hW => ?_⟩
  obtain ⟨em, hi, p⟩ := hW
  have q := hG i H hi p
  by_cases c : i < n
  · exact .inr ⟨w.goes i H c q, Pv (i + 1), fun H' p' => ⟨n - (i + 1), by omega, rfl, c, p'⟩, fun x H' y => hs i x H H' c p (w.yields i H x H' c q y)⟩
  · have e : i = n := by omega
    subst e
    exact .inl ⟨w.stops H q, hd H p⟩

/-- the search's state: rooms found, their ways, the rooms that wait -/
structure OutSt (ds : List Dr) (R : Nat) (H H' : Hp) (kd qd : Addr) (es : List (Int × List Stp)) (ls : List Int) : Prop where
  same : Same H H'
  kn : ∃ kvs, H' kd = some (.dK kvs) ∧ KRel (IsWay H') kvs es
  qu : H' qd = some (.lst (ls.map V.int))
  fd : Found ds R 0 es
  ll : ls.length ≤ es.length
theorem OutSt.step {ds : List Dr} {R : Nat} {H H1 H2 : Hp} {kd qd : Addr} {es : List (Int × List Stp)} {ls : List Int} (W : OutSt ds R H H1 kd qd es ls) (e : Same H1 H2) : OutSt ds R H H2 kd qd es ls := by
  obtain ⟨s, ⟨kvs, h1, h2⟩, q, f, l⟩ := W
  exact ⟨s.trans e, ⟨kvs, e _ _ h1, krel_mono h2 fun _ _ z => z.tk (tk_of e)⟩, e _ _ q, f, l⟩
def Closed (ds : List Dr) (es : List (Int × List Stp)) (r : Int) : Prop := ∀ p ∈ stepsFrom ds r, Seen es (gate ds p).r
theorem Closed.more {ds : List Dr} {es fs : List (Int × List Stp)} {r : Int} (h : Closed ds es r) : Closed ds (es ++ fs) r := fun p hp => (h p hp).more

section
variable {P : Program} {w : World} {K : PySem.W.Frag} {mg : Str → Option Value} {base : Heap} {f C : Addr} {fd : FuncData}
theorem ok_ways_out (F : Fun K "ways_out" "ways_out" s_p_ways_out f fd) (B : Blt mg) (T : HTxt K mg C) (DG : DefAt P w K mg base CX0 1 "gate_of" a_p_gate_of (spGateOf C)) : FnOk P w K mg base CX0 2 f fd a_p_ways_out (spWaysOut C) := by
  refine F.ok sc_p_ways_out (fun vs H Q E h => ?_) (fun cdv A outer s H vs Q E hr h => ?_)
  · obtain ⟨h, R, ds, rfl, _⟩ := h
    rfl
  · obtain ⟨h, R, ds, rfl, hI, hH, k⟩ := h
    have hu := hu_of hr
    refine ⟨_, pss_cons (ps_par (i := 1) (j := 2) (by rfl) sc_p_ways_out.nd rfl rfl (by decide) rfl rfl (pa_cons (pe_disp (pps_cons pe_int (pe_tup pa_nil) pps_nil) (by rfl) (by rfl) (fun z => by cases z) (by decide)) (pa_cons (pe_lst (pa_cons pe_int pa_nil)) pa_nil)) (by rfl))
      (pss_cons (ps_while PassesOwn.never (pt_cmpR (op_neD hr.units) (pv 2) (pe_lst pa_nil) (nomark _))
        (pss_cons (ps_set (i := 3) sc_p_ways_out.nd rfl (Or.inl rfl) (pe_bm PySem.F.plainAttrs_list PySem.F.slot_list_pop PySem.F.type_list_pop mt_popAt (pv 2) (pa_cons pe_int pa_nil)))
        (pss_one (ps_for PassesOwn.never rfl (pi_list (pe_lc2 (own := [("at", 6), ("side", 7)]) (vs1 := [7]) (g := gName 6) (g1 := gName 7) (tt := tYes) (tt1 := tYes) rfl sc_p_ways_out.nd (pi_range1 rfl B.range (pa_cons (pe_callB call_len_seq (by rfl) B.len PySem.boot_len (pa_cons (pe_fld (pv 0) rfl) pa_nil)) pa_nil))
            (blkOk_by (N := n_p_ways_out) (sc := defScope s_p_ways_out) (by decide +kernel)) (by decide) (fun _ _ _ _ _ => pg_name (i := 6) sc_p_ways_out.nd rfl (Or.inl rfl)) (fun _ _ _ _ _ => pts_nil) (fun _ _ _ _ _ => piT K (pi_tup (pe_tup (pa_cons pe_int (pa_cons pe_int pa_nil)))))
            (fun _ _ _ _ _ => pg_name (i := 7) sc_p_ways_out.nd rfl (Or.inl rfl)) (fun _ _ _ _ _ => pts_nil) (fun _ _ _ _ _ => pe_tup (pa_cons (pv 6) (pa_cons (pv 7) pa_nil))))) (pg_name (i := 4) sc_p_ways_out.nd rfl (Or.inl rfl))
          (pss_cons (ps_set (i := 5) sc_p_ways_out.nd rfl (Or.inl rfl) (pe_def DG hr rfl (pa_cons (pv 0) (pa_cons (pv 4) pa_nil))))
          (pss_one (ps_if (PW.pt (pw_and (pt_cmpR op_eq (pe_ix ix_tup (pv 5) pe_int (fun _ _ => rfl)) (pv 3) (nomark _)) (pw_and1 (pt_cmp (pc_dnotin hu (pe_ix ix_tup (pv 5) pe_int (fun _ _ => rfl)) (pv 1))))))
            (pss_cons (ps_dput hu (pv 1) (pe_ix ix_tup (pv 5) pe_int (fun _ _ => rfl)) (pe_tup (StX.pa_star (pe_dget hu (pv 1) (pv 3) (fun _ _ => rfl)) (pa_cons (pv 4) pa_nil))) rfl)
            (pss_one (ps_expr (pe_bm PySem.F.plainAttrs_list PySem.F.slot_list_append PySem.F.type_list_append mt_append (pv 2) (pa_cons (pe_ix ix_tup (pv 5) pe_int (fun _ _ => rfl)) pa_nil))))) pss_nil)))))))
      (pss_one (ps_ret (pv 1)))), ?_⟩
    have hR7 := hH.r7
    have hR1 := hH.r1
    have hlen := hH.len
    refine fun kd hkd => ?_
    have e1 := same_upd (o := .dK []) hkd
    have g1 : (upd H kd (.dK [])) kd = some (.dK []) := upd_same
    generalize upd H kd (.dK []) = H1 at e1 g1 ⊢
    refine ⟨(by decide : 0 ≤ sizeLine), fun t ht => ?_⟩
    have e2 := same_upd (o := .tup []) ht
    have g2 : (upd H1 t (.tup [])) t = some (.tup []) := upd_same
    have g21 := e2 _ _ g1
    generalize upd H1 t (.tup []) = H2 at e2 g2 g21 ⊢
    refine ⟨g21, [(Sum.inl 0, .ref t)], rfl, (by decide : 1 ≤ 15), ?_⟩
    have hkv : mergeK [] [((Sum.inl 0 : Key), V.ref t)] = [(Sum.inl 0, V.ref t)] := rfl
    rw [hkv]
    have e3 : Same H (upd H2 kd (.dK [(Sum.inl 0, .ref t)])) := same_write (e1.trans e2) hkd
    have g3 : (upd H2 kd (.dK [(Sum.inl 0, .ref t)])) kd = some (.dK [(Sum.inl 0, .ref t)]) := upd_same
    have g23 : (upd H2 kd (.dK [(Sum.inl 0, .ref t)])) t = some (.tup []) := by rw [upd_ne (ne_of g2 g21 (by intro z; cases z))]; exact g2
    generalize upd H2 kd (.dK [(Sum.inl 0, .ref t)]) = H3 at e3 g3 g23 ⊢
    refine ⟨(by decide : 1 ≤ sizeLine), fun qd hqd => ?_⟩
    have e4 := same_upd (o := .lst [.int 0]) hqd
    have g4 : (upd H3 qd (.lst [.int 0])) qd = some (.lst [.int 0]) := upd_same
    have g34 := e4 _ _ g3
    have g24 := e4 _ _ g23
    have hqH : H qd = none := e3.free hqd
    have W0 : OutSt ds R H (upd H3 qd (.lst [.int 0])) kd qd [(0, [])] [0] := ⟨e3.trans e4, ⟨_, g34, .cons ⟨rfl, t, rfl, [], g24, .nil⟩ .nil⟩, g4, Found.one (by decide) (by omega), Nat.le_refl _⟩
    generalize upd H3 qd (.lst [.int 0]) = H4 at W0 ⊢
    refine ⟨_, _, rfl, ?_⟩
    refine ⟨fun m σ H' => ∃ (es : List (Int × List Stp)) (ls : List Int) (v3 v4 v5 v6 v7 : Option V), m = (R - es.length) + ls.length ∧ σ = [some (.ref h), some (.ref kd), some (.ref qd), v3, v4, v5, v6, v7] ∧ OutSt ds R H H' kd qd es ls ∧ (∀ e ∈ es, e.1 ∈ ls ∨ Closed ds es e.1) ∧ ∀ r ∈ ls, Seen es r,
      ⟨_, [(0, [])], [0], none, none, none, none, none, rfl, rfl, W0, fun e he => .inl (by have e1 : e = (0, []) := by simpa using he
                                                                                           subst e1
                                                                                           exact List.mem_cons_self), fun r hr => ⟨(0, []), List.mem_cons_self, (List.mem_singleton.mp hr).symm⟩⟩, ?_⟩
    rintro m σ H5 ⟨es, ls, v3, v4, v5, v6, v7, em, rfl, W5, C5, L5⟩
    refine ⟨_, rfl, (by decide : 0 ≤ sizeLine), fun t5 ht5 => ?_⟩
    have e6 := same_upd (o := .lst []) ht5
    have g6 : (upd H5 t5 (.lst [])) t5 = some (.lst []) := upd_same
    have W6 := W5.step e6
    generalize upd H5 t5 (.lst []) = H6 at e6 g6 W6 ⊢
    refine ⟨_, _, dp_list W6.qu, dp_nil g6, shaped_list _, rfl, _, rfl, ?_⟩
    show if (!PyData.eqvAll (ls.map PyData.int) []) = true then _ else _
    rw [eqvAll_nil]
    cases ls with
    | nil =>
      refine iteF ?_
      obtain ⟨kvs, hk6, hkr⟩ := W6.kn
      refine ⟨_, rfl, k H6 kd kvs es W6.same hk6 hkr W6.fd fun r r0 r1 => ?_⟩
      refine hH.conn (Seen es) (closed_of fun r' hr p hp => ?_) 0 r (by decide) (by omega) r0 r1 W6.fd.st
      obtain ⟨e, he, q⟩ := hr
      rcases C5 e he with z | z
      · cases z
      · exact z p (by rw [q]; exact hp)
    | cons here ls =>
      refine iteT ?_
      refine ⟨fun σ' H' => ∃ m', m' < m ∧ ∃ (es : List (Int × List Stp)) (ls : List Int) (v3 v4 v5 v6 v7 : Option V), m' = (R - es.length) + ls.length ∧ σ' = [some (.ref h), some (.ref kd), some (.ref qd), v3, v4, v5, v6, v7] ∧ OutSt ds R H H' kd qd es ls ∧ (∀ e ∈ es, e.1 ∈ ls ∨ Closed ds es e.1) ∧ ∀ r ∈ ls, Seen es r, fun _ _ z => z, ?_⟩
      have hq6 := W6.qu
      obtain ⟨kvs6, hk6, hkr6⟩ := W6.kn
      have nkq : qd ≠ kd := ne_of hq6 hk6 (by intro z; cases z)
      refine ⟨_, rfl, .inl ⟨rfl, _, SqL.of hq6⟩, qd, _, 0, 0, _, rfl, rfl, hq6, by decide, by decide, PySem.seqIndex_of (by decide) (by rw [List.length_map, List.length_cons]; omega), rfl, ?_⟩
      have tk7 := tk_lst (o := .lst (ls.map V.int)) hq6
      have W7 : OutSt ds R H (upd H6 qd (.lst (ls.map V.int))) kd qd es ls := ⟨same_write W6.same hqH, ⟨kvs6, by rw [upd_ne nkq.symm]; exact hk6, krel_mono hkr6 fun _ _ z => z.tk tk7⟩, upd_same, W6.fd, by have := W6.ll; rw [List.length_cons] at this; omega⟩
      rw [show (List.map V.int (here :: ls)).eraseIdx 0 = ls.map V.int from rfl]
      generalize upd H6 qd (.lst (ls.map V.int)) = H7 at W7 ⊢
      obtain ⟨dx, D, hh, vs, hD, hP⟩ := hI
      have hI : IsHouse C H h R ds := ⟨dx, D, hh, vs, hD, hP⟩
      have hh7 := W7.same _ _ hh
      have hD7 := W7.same _ _ hD
      have hvl : vs.length = ds.length := hP.length
      refine ⟨_, rfl, h, C, dx, _, _, rfl, hh7, T.cl, T.nD, lk_doors, D, vs, rfl, .inr (SqT.of hD7), (ds.length : Int), by rw [hvl], by omega, by omega, fun L hL => ?_⟩
      have en : (ds.length : Int).toNat = ds.length := by omega
      rw [en]
      refine outer_it (walk_range (lo := 0) (n := ds.length)) (fun i H' => Same H7 H' ∧ ∃ us : List V, H' L = some (.lst us) ∧ Paired (IsStp H') us (allStps i)) ⟨same_upd hL, [], upd_same, .nil⟩ (fun _ _ _ _ => trivial) ?_ ?_
      · rintro i x H8 H8' hi ⟨e8, us, hus, hPu⟩ ⟨rfl, hx⟩
        obtain rfl : x = V.int (i : Int) := hx.trans (by show V.int (0 + (i : Int)) = V.int (i : Int); rw [Int.zero_add])
        have hul : us.length = 2 * i := by rw [hPu.length, len_all]
        refine ⟨rfl, (by decide : 2 ≤ sizeLine), fun t2 ht2 => ?_⟩
        have e9 := same_upd (o := .tup [V.int 0, V.int 1]) ht2
        have g9 : (upd H8' t2 (.tup [V.int 0, V.int 1])) t2 = some (.tup [V.int 0, V.int 1]) := upd_same
        have hus9 := e9 _ _ hus
        have hPu9 := stps_tk hPu (tk_of e9)
        have e89 := e8.trans e9
        generalize upd H8' t2 (.tup [V.int 0, V.int 1]) = H9 at e9 g9 hus9 hPu9 e89 ⊢
        refine ⟨t2, rfl, ⟨_, SqT.of g9⟩, outer_it (walk_tup (K := K) (a := t2) (xs := [V.int 0, V.int 1])) (fun j H' => Same H7 H' ∧ H' t2 = some (.tup [V.int 0, V.int 1]) ∧ ∃ us : List V, H' L = some (.lst us) ∧ Paired (IsStp H') us (allStps i ++ ([((i : Int), 0), ((i : Int), 1)] : List Stp).take j)) ⟨e89, g9, us, hus9, by rw [List.take_zero, List.append_nil]; exact hPu9⟩ (fun j H' _ ⟨_, q, _⟩ => SqT.of q) ?_ ?_⟩
        · rintro j y HA HA' hj ⟨eA, gA, ws, hws, hPw⟩ ⟨rfl, hy⟩
          obtain ⟨sd, rfl, hst⟩ : ∃ sd : Int, y = .int sd ∧ ([((i : Int), 0), ((i : Int), 1)] : List Stp)[j]? = some ((i : Int), sd) := by
            match j, hy with
            | 0, hy => exact ⟨0, (Option.some.inj hy).symm, rfl⟩
            | 1, hy => exact ⟨1, (Option.some.inj hy).symm, rfl⟩
            | n + 2, hy => simp at hy
          have hwl : ws.length ≤ 2 * i + 2 := by
            rw [hPw.length, List.length_append, len_all]
            have := List.length_take_le j ([((i : Int), 0), ((i : Int), 1)] : List Stp)
            have e2 : ([((i : Int), 0), ((i : Int), 1)] : List Stp).length = 2 := rfl
            rw [List.length_take, e2]
            omega
          refine ⟨rfl, _, rfl, _, rfl, (by decide : 2 ≤ sizeLine), fun t3 ht3 => ?_⟩
          have eB := same_upd (o := .tup [V.int (i : Int), V.int sd]) ht3
          have gB : (upd HA' t3 (.tup [V.int (i : Int), V.int sd])) t3 = some (.tup [V.int (i : Int), V.int sd]) := upd_same
          have hwsB := eB _ _ hws
          have gAB := eB _ _ gA
          refine ⟨ws, hwsB, small_line (by omega), same_write (eA.trans eB) hL, (tk_lst hwsB).1 _ _ gAB, _, upd_same, ?_⟩
          rw [take_more hst, ← List.append_assoc]
          exact stps_snoc hPw ((tk_of eB).trans (tk_lst hwsB)) ⟨t3, rfl, (tk_lst hwsB).1 _ _ gB⟩
        · rintro HA ⟨eA, gA, ws, hws, hPw⟩
          exact ⟨eA, ws, hws, hPw⟩
      · rintro H8 ⟨e8, us, hus, hPu⟩
        have W8 := W7.step e8
        have hne : L ≠ kd ∧ L ≠ qd := by
          obtain ⟨kvs, h1, _⟩ := W7.kn
          exact ⟨(ne_of_none h1 hL).symm, (ne_of_none W7.qu hL).symm⟩
        refine ⟨L, rfl, ⟨_, SqL.of hus⟩, for_list (K := K) (a := L) (xs := us) (fun j σ H' => ∃ (fs : List (Int × List Stp)) (v4 v5 v6 v7 : Option V), σ = [some (.ref h), some (.ref kd), some (.ref qd), some (.int here), v4, v5, v6, v7] ∧ OutSt ds R H H' kd qd (es ++ fs) (ls ++ fs.map (·.1)) ∧ H' L = some (.lst us) ∧ Paired (IsStp H') us (allStps ds.length) ∧ ∀ i p, i < j → (allStps ds.length)[i]? = some p → (gate ds p).n = here → Seen (es ++ fs) (gate ds p).r)
          ⟨[], _, _, _, _, rfl, by rw [List.append_nil, List.map_nil, List.append_nil]; exact W8, hus, hPu, fun i p hi => absurd hi (Nat.not_lt_zero _)⟩ (fun i σ H' _ ⟨_, _, _, _, _, _, _, h, _⟩ => SqL.of h) ?_ ?_⟩
        · rintro j x σ H9 hx ⟨fs, v4, v5, v6, v7, rfl, W9, hl9, hP9, hS9⟩
          obtain ⟨st, hst, pa, rfl, hpa⟩ := pair_at' hP9 hx
          have hok : okStp ds st := mem_all.mp (List.mem_of_getElem? hst)
          have hRo : okDr R (gate ds st) := gate_ok hH.ok hok
          refine ⟨_, rfl, _, rfl, h, pa, R, ds, st, rfl, hI.tk (tk_of W9.same), hpa, hok, fun g hg => ?_⟩
          have eA := same_upd (o := .tup (doorV (gate ds st))) hg
          have gA : (upd H9 g (.tup (doorV (gate ds st)))) g = some (.tup (doorV (gate ds st))) := upd_same
          have WA := W9.step eA
          have hlA := eA _ _ hl9
          have hPA := stps_tk hP9 (tk_of eA)
          have hpaA := eA _ _ hpa
          generalize upd H9 g (.tup (doorV (gate ds st))) = HA at eA gA WA hlA hPA hpaA ⊢
          refine ⟨_, rfl, g, _, _, _, rfl, rfl, SqT.of gA, rfl, _, rfl, rfl, _, rfl, ?_⟩
          by_cases cn : (gate ds st).n = here
          · refine if_true_of' (by rw [cn]; exact decide_eq_true rfl) ?_
            obtain ⟨kvs, hkA, hkr⟩ := WA.kn
            refine ⟨_, rfl, g, _, _, _, rfl, rfl, SqT.of gA, rfl, _, rfl, kd, _, rfl, DGet.k (k := Sum.inl (gate ds st).r) hkA, _, rfl, ?_⟩
            by_cases cs : Seen (es ++ fs) (gate ds st).r
            · obtain ⟨v, e', hv, _⟩ := krel_some hkr cs
              rw [hv]
              refine iteF ?_
              refine ⟨fs, _, _, _, _, rfl, WA, hlA, hPA, fun i p hi hp hn => ?_⟩
              by_cases ci : i = j
              · subst ci
                rw [hst] at hp
                cases hp
                exact cs
              · exact hS9 i p (by omega) hp hn
            · have hno : ∀ e' ∈ es ++ fs, e'.1 ≠ (gate ds st).r := fun e' he' z => cs ⟨e', he', z⟩
              rw [krel_none hkr hno]
              refine iteT ?_
              have hsh : Seen (es ++ fs) here := (L5 here List.mem_cons_self).more
              obtain ⟨v, e', hv, he', hee, wq, rfl, hwq⟩ := krel_some hkr hsh
              obtain ⟨f0, f1, f2, f3⟩ := WA.fd.ok e' he'
              have hle := WA.fd.le
              have hll := WA.ll
              obtain ⟨wv, hwv, hwP, hwl⟩ := hwq.len
              refine ⟨_, rfl, _, rfl, kd, _, rfl, by rw [← hv]; exact DGet.k (k := Sum.inl here) hkA, wq, wv, rfl, .inl (SqT.of hwv), _, rfl, ?_⟩
              refine ⟨Nat.le_of_lt (small_line (by rw [List.length_append, List.length_singleton]; omega)), fun nw hnw => ?_⟩
              have eB := same_upd (o := .tup (wv ++ [V.ref pa])) hnw
              have gB : (upd HA nw (.tup (wv ++ [V.ref pa]))) nw = some (.tup (wv ++ [V.ref pa])) := upd_same
              have WB := WA.step eB
              have hlB := eB _ _ hlA
              have hPB := stps_tk hPA (tk_of eB)
              have hnB : IsStps (upd HA nw (.tup (wv ++ [V.ref pa]))) nw (e'.2 ++ [st]) := ⟨_, gB, stps_snoc hwP (tk_of eB) ⟨pa, rfl, eB _ _ hpaA⟩⟩
              have gAB := eB _ _ gA
              generalize upd HA nw (.tup (wv ++ [V.ref pa])) = HB at eB gB WB hlB hPB hnB gAB ⊢
              obtain ⟨kvs', hkB, hkrB⟩ := WB.kn
              have hlenk : kvs'.length < sizeLine := small_line (by rw [hkrB.length]; omega)
              refine ⟨_, rfl, _, rfl, g, _, _, _, rfl, rfl, SqT.of gAB, rfl, kd, _, rfl, DPut.k (k := Sum.inl (gate ds st).r) hkB hlenk, ?_⟩
              have hqB := WB.qu
              have tkC := tk_dK (o := .dK (putK kvs' (Sum.inl (gate ds st).r) (.ref nw))) hkB
              have hqC : (upd HB kd (.dK (putK kvs' (Sum.inl (gate ds st).r) (.ref nw)))) qd = some (.lst ((ls ++ fs.map (·.1)).map V.int)) := by rw [upd_ne nkq]; exact hqB
              have hkC : (upd HB kd (.dK (putK kvs' (Sum.inl (gate ds st).r) (.ref nw)))) kd = some (.dK (putK kvs' (Sum.inl (gate ds st).r) (.ref nw))) := upd_same
              have sC : Same H (upd HB kd (.dK (putK kvs' (Sum.inl (gate ds st).r) (.ref nw)))) := same_write WB.same hkd
              have hlC : (upd HB kd (.dK (putK kvs' (Sum.inl (gate ds st).r) (.ref nw)))) L = some (.lst us) := by rw [upd_ne hne.1]; exact hlB
              have gC := tkC.1 _ _ gAB
              generalize upd HB kd (.dK (putK kvs' (Sum.inl (gate ds st).r) (.ref nw))) = HC at tkC hqC hkC sC hlC gC ⊢
              have hql : ((ls ++ fs.map (·.1)).map V.int).length < sizeLine := small_line (by rw [List.length_map]; omega)
              have tkD := tk_lst (o := .lst ((ls ++ fs.map (·.1)).map V.int ++ [V.int (gate ds st).r])) hqC
              refine ⟨_, rfl, .inl ⟨rfl, _, SqL.of hqC⟩, _, rfl, g, _, _, _, rfl, rfl, SqT.of gC, rfl, qd, _, _, rfl, rfl, hqC, hql, ?_⟩
              refine ⟨fs ++ [((gate ds st).r, e'.2 ++ [st])], _, _, _, _, rfl, ⟨same_write sC hqH, ⟨putK kvs' (Sum.inl (gate ds st).r) (.ref nw), ?_, ?_⟩, ?_, ?_, ?_⟩, ?_, ?_, ?_⟩
              · rw [upd_ne nkq.symm]
                exact hkC
              · rw [← List.append_assoc]
                exact krel_put (krel_mono hkrB fun _ _ z => (z.tk tkC).tk tkD) hno ⟨nw, rfl, (hnB.tk tkC).tk tkD⟩
              · rw [upd_same, List.map_append (f := fun x : Int × List Stp => x.1), ← List.append_assoc, List.map_append (l₁ := ls ++ _)]
                rfl
              · rw [← List.append_assoc]
                exact WB.fd.more he' hok hRo (by rw [cn, hee]) hno
              · rw [List.map_append, ← List.append_assoc, ← List.append_assoc, List.length_append, List.length_append (bs := [((gate ds st).r, e'.2 ++ [st])])]
                have e1 : (List.map (fun x : Int × List Stp => x.1) [((gate ds st).r, e'.2 ++ [st])]).length = 1 := rfl
                have e2 : [((gate ds st).r, e'.2 ++ [st])].length = 1 := rfl
                omega
              · rw [upd_ne hne.2]
                exact hlC
              · exact stps_tk (stps_tk hPB tkC) tkD
              · intro i p hi hp hn
                rw [← List.append_assoc]
                by_cases ci : i = j
                · subst ci
                  rw [hst] at hp
                  cases hp
                  exact ⟨_, List.mem_append_right _ List.mem_cons_self, rfl⟩
                · exact (hS9 i p (by omega) hp hn).more
          · refine if_false_of' (decide_eq_false (fun z => cn (V.int.inj z))) ?_
            refine iteF ?_
            refine ⟨fs, _, _, _, _, rfl, WA, hlA, hPA, fun i p hi hp hn => ?_⟩
            by_cases ci : i = j
            · subst ci
              rw [hst] at hp
              cases hp
              exact absurd hn cn
            · exact hS9 i p (by omega) hp hn
        · rintro σ H9 ⟨fs, v4, v5, v6, v7, rfl, W9, hl9, hP9, hS9⟩
          rw [hP9.length] at hS9
          have hle9 := W9.fd.le
          rw [List.length_append] at hle9
          refine ⟨(R - (es ++ fs).length) + (ls ++ fs.map (·.1)).length, ?_, es ++ fs, ls ++ fs.map (·.1), _, v4, v5, v6, v7, rfl, rfl, W9, fun e he => ?_, fun r hr => ?_⟩
          · rw [List.length_append, List.length_append, List.length_map, em, List.length_cons]
            omega
          · have hcl : Closed ds (es ++ fs) here := fun p hp => by
              obtain ⟨ho, hn⟩ := mem_steps.mp hp
              obtain ⟨i, hi, ei⟩ := List.mem_iff_getElem.mp (mem_all.mpr ho)
              exact hS9 i p hi (by rw [List.getElem?_eq_getElem hi, ei]) hn
            rcases List.mem_append.mp he with q | q
            · rcases C5 e q with z | z
              · rcases List.mem_cons.mp z with c | c
                · rw [c]
                  exact .inr hcl
                · exact .inl (List.mem_append_left _ c)
              · exact .inr z.more
            · exact .inl (List.mem_append_right _ (List.mem_map.mpr ⟨e, q, rfl⟩))
          · rcases List.mem_append.mp hr with q | q
            · exact (L5 r (List.mem_cons_of_mem _ q)).more
            · obtain ⟨e, he, er⟩ := List.mem_map.mp q
              exact ⟨e, List.mem_append_right _ he, er⟩
end
end K19

set_option Elab.async false
set_option linter.all false
set_option maxRecDepth 100000
set_option maxHeartbeats 4000000
/-! The program: looks at doors, rooms joined, a house made. -/
namespace K19
open PySem L2

def spIsDoor : Sp := fun vs H Q _ => ∃ (a : Addr) (R : Nat) (d : Dr), vs = [.ref a, .int (R : Int)] ∧ H a = some (.tup (doorV d)) ∧ okDr R d ∧ ∀ H', Same H H' → Q (.bl true) H'
def spAreDoors : Sp := fun vs H Q _ => ∃ (D : Addr) (R : Nat) (ds : List Dr), vs = [.ref D, .int (R : Int)] ∧ IsDoors H D ds ∧ ds.length ≤ 20 ∧ (∀ d ∈ ds, okDr R d) ∧ ∀ H', Same H H' → Q (.bl true) H'
def Seen1 (es : List (Int × Unit)) (r : Int) : Prop := ∃ e ∈ es, e.1 = r
def spJoined : Sp := fun vs H Q _ => ∃ (D : Addr) (R : Nat) (ds : List Dr), vs = [.ref D] ∧ IsDoors H D ds ∧ House R ds ∧
  ∀ (H' : Hp) (kd : Addr) (kvs : List (Key × V)) (es : List (Int × Unit)), Same H H' → H' kd = some (.dK kvs) → KRel (fun _ _ => True) kvs es → (∀ r : Int, 0 ≤ r → r < R → Seen1 es r) → Q (.ref kd) H'
structure Consts (mg : Str → Option Value) : Prop where
  rooms : ∃ t, mg "MOST_ROOMS" = some (.int 12 t)
  doors : ∃ t, mg "MOST_DOORS" = some (.int 20 t)
  greatest : ∃ t, mg "GREATEST" = some (.int 999 t)
theorem kit_tt {K : PySem.W.Frag} : PySem.W.kitOne K (.type "tuple") (.type "tuple") = some true := kit_ty (by decide +kernel)

section
variable {P : Program} {w : World} {K : PySem.W.Frag} {mg : Str → Option Value} {base : Heap} {f C : Addr} {fd : FuncData}
theorem ok_is_door (F : Fun K "is_door" "is_door" s_p_is_door f fd) (B : Blt mg) (Z : Consts mg) (DN : DefAt P w K mg base CX0 1 "is_number" a_p_is_number spWhole) (DB : DefAt P w K mg base CX0 2 "is_below" a_p_is_below spBelow) : FnOk P w K mg base CX0 3 f fd a_p_is_door spIsDoor := by
  obtain ⟨tg, hg⟩ := Z.greatest
  refine F.ok sc_p_is_door (fun vs H Q E h => ?_) (fun cdv A outer s H vs Q E hr h => ?_)
  · obtain ⟨a, R, d, rfl, _⟩ := h
    rfl
  · obtain ⟨a, R, d, rfl, ha, hd, k⟩ := h
    have hr1 : Room 1 _ := hr.mono (by decide)
    refine ⟨_, pss_cons (ps_if (PW.pt (pw_or (pt_not (pt_val (pe_callB call_isi (by rfl) B.isinstance (by decide +kernel) (pa_cons (pv 0) (pa_cons (pe_bltn (v := .ty "tuple") (by rfl) B.tuple (by decide +kernel) rfl) pa_nil)))))
          (pw_or1 (pt_cmpR op_ne (pe_callB call_len_seq (by rfl) B.len PySem.boot_len (pa_cons (pv 0) pa_nil)) pe_int (nomark _))))) (pss_one ps_never) pss_nil)
      (pss_cons (ps_asg (pv 0) (pg_tup rfl (pgs_cons (pg_name (i := 2) sc_p_is_door.nd rfl (Or.inl rfl)) (pgs_cons (pg_name (i := 3) sc_p_is_door.nd rfl (Or.inl rfl)) (pgs_cons (pg_name (i := 4) sc_p_is_door.nd rfl (Or.inl rfl)) (pgs_cons (pg_name (i := 5) sc_p_is_door.nd rfl (Or.inl rfl)) pgs_nil))))))
      (pss_cons (ps_if (PW.pt (pw_or (pt_not (pt_val (pe_def DB hr rfl (pa_cons (pv 2) (pa_cons (pv 1) pa_nil))))) (pw_or1 (pt_not (pt_val (pe_def DB hr rfl (pa_cons (pv 4) (pa_cons (pv 1) pa_nil)))))))) (pss_one ps_never) pss_nil)
      (pss_one (ps_ret (pe_callB (cr_all rfl) (by rfl) B.all (by decide +kernel) (pa_cons
        (pe_lc (own := [("item", 6)]) (g := gName 6) (tt := tYes) rfl sc_p_is_door.nd (pi_tup (pe_tup (pa_cons (pv 3) (pa_cons (pv 5) pa_nil)))) (blkOk_by (N := n_p_is_door) (sc := defScope s_p_is_door) (by decide +kernel)) (fun _ _ _ _ _ => pg_name (i := 6) sc_p_is_door.nd rfl (Or.inl rfl)) (fun _ _ _ _ _ => pts_nil)
          (fun _ _ _ _ _ => by exact (pe_and (pe_def DN hr1 rfl (pa_cons (pv 6) pa_nil)) (pe_and (pe_cmpR op_ne (pv 6) pe_int (nomark _)) (pe_one (pe_chain op_le op_le (pe_un un_neg (pe_glob (v := .int 999) rfl hg ⟨_, rfl⟩)) (pv 6) (pe_glob (v := .int 999) rfl hg ⟨_, rfl⟩))))))) pa_nil)))))), ?_⟩
    obtain ⟨h1, h2, h3, h4, h5, h6, h7, h8, h9, h10⟩ := hd
    refine ⟨_, rfl, _, _, _, _, _, rfl, .ty _, .base (.tup ha), kit_tt, _, rfl, iteF ⟨_, rfl, a, _, rfl, .inr (SqT.of ha), rfl, _, rfl, iteF ?_⟩⟩
    refine ⟨_, rfl, a, _, rfl, SqT.of ha, rfl, ⟨_, _, rfl, _, _, rfl, _, _, rfl, _, _, rfl, rfl, ?_⟩⟩
    refine ⟨_, rfl, _, rfl, _, _, rfl, h1, h2, _, rfl, iteF ⟨_, rfl, _, rfl, _, _, rfl, h3, h4, _, rfl, iteF ?_⟩⟩
    refine ⟨_, rfl, _, rfl, (by decide : 2 ≤ sizeLine), fun t ht => ?_⟩
    have e1 := same_upd (o := .tup [V.int d.f, V.int d.s]) ht
    have g1 : (upd H t (.tup [V.int d.f, V.int d.s])) t = some (.tup [V.int d.f, V.int d.s]) := upd_same
    generalize upd H t (.tup [V.int d.f, V.int d.s]) = H1 at e1 g1 ⊢
    refine ⟨t, rfl, ⟨_, SqT.of g1⟩, fun L hL => lc_tup (K := K) (a := t) (xs := [V.int d.f, V.int d.s]) (fun i H' => Same H1 H' ∧ H' L = some (.lst (List.replicate i (V.bl true)))) ⟨same_upd hL, upd_same⟩ (fun i H' _ ⟨e, _⟩ => SqT.of (e _ _ g1)) ?_ ?_⟩
    · rintro i x H2 hx ⟨e2, hl⟩
      obtain ⟨z, rfl, z0, z1, z2⟩ : ∃ z : Int, x = .int z ∧ z ≠ 0 ∧ -999 ≤ z ∧ z ≤ 999 := by
        match i, hx with
        | 0, hx => exact ⟨d.f, (Option.some.inj hx).symm, h5, h7, h8⟩
        | 1, hx => exact ⟨d.s, (Option.some.inj hx).symm, h6, h9, h10⟩
        | n + 2, hx => simp at hx
      have hi : i < 2 := (List.getElem?_eq_some_iff.mp hx).1
      refine ⟨rfl, _, rfl, .inl ⟨_, rfl, _, rfl, iteT ⟨_, rfl, rfl, _, rfl, ?_⟩⟩⟩
      refine if_true_of' (by simpa using z0) ?_
      refine ⟨_, rfl, _, rfl, _, _, rfl, rfl, _, rfl, ?_⟩
      refine if_true_of' (decide_eq_true z1) ⟨_, _, rfl, rfl, _, hl, small_line (by rw [List.length_replicate]; omega), same_write e2 hL, ?_⟩
      rw [upd_same, List.replicate_succ']
      exact congrArg (fun q => some (HO.lst (List.replicate i (V.bl true) ++ [V.bl q]))) (decide_eq_true z2)
    · rintro H2 ⟨e2, hl⟩
      exact ⟨L, [true, true], rfl, SqL.of hl, k _ (e1.trans e2)⟩
theorem ok_are_doors (F : Fun K "are_doors" "are_doors" s_p_are_doors f fd) (B : Blt mg) (Z : Consts mg) (DD : DefAt P w K mg base CX0 3 "is_door" a_p_is_door spIsDoor) : FnOk P w K mg base CX0 4 f fd a_p_are_doors spAreDoors := by
  obtain ⟨tg, hg⟩ := Z.doors
  refine F.ok sc_p_are_doors (fun vs H Q E h => ?_) (fun cdv A outer s H vs Q E hr h => ?_)
  · obtain ⟨a, R, d, rfl, _⟩ := h
    rfl
  · obtain ⟨D, R, ds, rfl, ⟨vs, hD, hP⟩, hl, hok, k⟩ := h
    have hvl : vs.length = ds.length := hP.length
    refine ⟨_, pss_cons (ps_if (PW.pt (pw_or (pt_not (pt_val (pe_callB call_isi (by rfl) B.isinstance (by decide +kernel) (pa_cons (pv 0) (pa_cons (pe_bltn (v := .ty "tuple") (by rfl) B.tuple (by decide +kernel) rfl) pa_nil)))))
          (pw_or1 (pt_cmpR op_gt (pe_callB call_len_seq (by rfl) B.len PySem.boot_len (pa_cons (pv 0) pa_nil)) (pe_glob (v := .int 20) rfl hg ⟨_, rfl⟩) (nomark _))))) (pss_one ps_never) pss_nil)
      (pss_one (ps_ret (pe_callB (cr_all rfl) (by rfl) B.all (by decide +kernel) (pa_cons
        (pe_lc (own := [("door", 2)]) (g := gName 2) (tt := tYes) rfl sc_p_are_doors.nd (pi_tup (pv 0)) (blkOk_by (N := n_p_are_doors) (sc := defScope s_p_are_doors) (by decide +kernel)) (fun _ _ _ _ _ => pg_name (i := 2) sc_p_are_doors.nd rfl (Or.inl rfl)) (fun _ _ _ _ _ => pts_nil)
          (fun _ _ _ _ _ => by exact (pe_def DD hr rfl (pa_cons (pv 2) (pa_cons (pv 1) pa_nil))))) pa_nil)))), ?_⟩
    refine ⟨_, rfl, _, _, _, _, _, rfl, .ty _, .base (.tup hD), kit_tt, _, rfl, iteF ⟨_, rfl, D, _, rfl, .inr (SqT.of hD), _, _, rfl, rfl, _, rfl, ?_⟩⟩
    refine if_false_of' (decide_eq_false (by rw [hvl]; omega)) ?_
    refine ⟨_, rfl, D, rfl, ⟨_, SqT.of hD⟩, fun L hL => lc_tup (K := K) (a := D) (xs := vs) (fun i H' => Same H H' ∧ H' L = some (.lst (List.replicate i (V.bl true)))) ⟨same_upd hL, upd_same⟩ (fun i H' _ ⟨e, _⟩ => SqT.of (e _ _ hD)) ?_ ?_⟩
    · rintro i x H2 hx ⟨e2, hl2⟩
      obtain ⟨d, hd, a, rfl, ha⟩ := pair_at' hP hx
      have hi := (List.getElem?_eq_some_iff.mp hx).1
      refine ⟨rfl, _, rfl, _, rfl, a, R, d, rfl, e2 _ _ ha, hok d (List.mem_of_getElem? hd), fun H3 e3 => ?_⟩
      refine ⟨_, e3 _ _ hl2, small_line (by rw [List.length_replicate]; omega), same_write (e2.trans e3) hL, ?_⟩
      rw [upd_same, List.replicate_succ']
    · rintro H2 ⟨e2, hl2⟩
      refine ⟨L, List.replicate vs.length true, rfl, by rw [List.map_replicate]; exact SqL.of hl2, ?_⟩
      have ea : (List.replicate vs.length true).all id = true := List.all_eq_true.mpr fun b hb => by rw [List.eq_of_mem_replicate hb]; rfl
      show Q (.bl ((List.replicate vs.length true).all id)) H2
      rw [ea]
      exact k _ e2
end
end K19

set_option Elab.async false
set_option linter.all false
set_option maxRecDepth 100000
set_option maxHeartbeats 4000000
/-! The program: which rooms are joined. -/
namespace K19
open PySem L2

structure JnSt (R : Nat) (H H' : Hp) (kd qd : Addr) (es : List (Int × Unit)) (ls : List Int) : Prop where
  same : Same H H'
  kn : ∃ kvs, H' kd = some (.dK kvs) ∧ KRel (fun _ _ => True) kvs es
  qu : H' qd = some (.lst (ls.map V.int))
  nd : (es.map (·.1)).Nodup
  bd : ∀ e ∈ es, 0 ≤ e.1 ∧ e.1 < R
  ll : ls.length ≤ es.length
  st : Seen1 es 0
theorem JnSt.step {R : Nat} {H H1 H2 : Hp} {kd qd : Addr} {es : List (Int × Unit)} {ls : List Int} (W : JnSt R H H1 kd qd es ls) (e : Same H1 H2) : JnSt R H H2 kd qd es ls := by
  obtain ⟨s, ⟨kvs, h1, h2⟩, q, n, b, l, z⟩ := W
  exact ⟨s.trans e, ⟨kvs, e _ _ h1, h2⟩, e _ _ q, n, b, l, z⟩
theorem JnSt.le {R : Nat} {H H1 : Hp} {kd qd : Addr} {es : List (Int × Unit)} {ls : List Int} (W : JnSt R H H1 kd qd es ls) : es.length ≤ R := by
  have := rooms_le W.nd (R := R) fun r hr => by
    obtain ⟨e, he, q⟩ := List.mem_map.mp hr
    subst q
    exact W.bd e he
  rw [List.length_map] at this
  exact this
theorem Seen1.more {es fs : List (Int × Unit)} {r : Int} (h : Seen1 es r) : Seen1 (es ++ fs) r := by
  obtain ⟨e, he, q⟩ := h
  exact ⟨e, List.mem_append_left _ he, q⟩
/-- a door, looked at from here -/
def Nbr (d : Dr) (es : List (Int × Unit)) (r : Int) : Prop := (d.n = r → Seen1 es d.r) ∧ (d.r = r → Seen1 es d.n)
theorem Nbr.more {d : Dr} {es fs : List (Int × Unit)} {r : Int} (h : Nbr d es r) : Nbr d (es ++ fs) r := ⟨fun z => (h.1 z).more, fun z => (h.2 z).more⟩

section
variable {P : Program} {w : World} {K : PySem.W.Frag} {mg : Str → Option Value} {base : Heap} {f C : Addr} {fd : FuncData}
theorem ok_joined (F : Fun K "joined_rooms" "joined_rooms" s_p_joined_rooms f fd) (B : Blt mg) : FnOk P w K mg base CX0 1 f fd a_p_joined_rooms spJoined := by
  refine F.ok sc_p_joined_rooms (fun vs H Q E h => ?_) (fun cdv A outer s H vs Q E hr h => ?_)
  · obtain ⟨h, R, ds, rfl, _⟩ := h
    rfl
  · obtain ⟨D, R, ds, rfl, hI, hH, k⟩ := h
    have hu := hu_of hr
    refine ⟨_, pss_cons (ps_par (i := 1) (j := 2) (by rfl) sc_p_joined_rooms.nd rfl rfl (by decide) rfl rfl (pa_cons (pe_disp (pps_cons pe_int pe_bl pps_nil) (by rfl) (by rfl) (fun z => by cases z) (by decide)) (pa_cons (pe_lst (pa_cons pe_int pa_nil)) pa_nil)) (by rfl))
      (pss_cons (ps_while PassesOwn.never (pt_cmpR (op_neD hr.units) (pv 2) (pe_lst pa_nil) (nomark _))
        (pss_cons (ps_set (i := 3) sc_p_joined_rooms.nd rfl (Or.inl rfl) (pe_bm0 PySem.F.plainAttrs_list PySem.F.slot_list_pop PySem.F.type_list_pop mt_pop (pv 2)))
        (pss_one (ps_for PassesOwn.never rfl (pi_tup (pv 0)) (pg_tup rfl (pgs_cons (pg_name (i := 4) sc_p_joined_rooms.nd rfl (Or.inl rfl)) (pgs_cons (pg_name (i := 5) sc_p_joined_rooms.nd rfl (Or.inl rfl)) (pgs_cons (pg_name (i := 6) sc_p_joined_rooms.nd rfl (Or.inl rfl)) (pgs_cons (pg_name (i := 7) sc_p_joined_rooms.nd rfl (Or.inl rfl)) pgs_nil)))))
          (pss_one (ps_for PassesOwn.never rfl (pi_tup (pe_tup (pa_cons (pe_tup (pa_cons (pv 4) (pa_cons (pv 6) pa_nil))) (pa_cons (pe_tup (pa_cons (pv 6) (pa_cons (pv 4) pa_nil))) pa_nil)))) (pg_tup rfl (pgs_cons (pg_name (i := 8) sc_p_joined_rooms.nd rfl (Or.inl rfl)) (pgs_cons (pg_name (i := 9) sc_p_joined_rooms.nd rfl (Or.inl rfl)) pgs_nil)))
            (pss_one (ps_if (PW.pt (pw_and (pt_cmpR op_eq (pv 8) (pv 3) (nomark _)) (pw_and1 (pt_cmp (pc_dnotin hu (pv 9) (pv 1))))))
              (pss_cons (ps_dput hu (pv 1) (pv 9) pe_bl rfl)
              (pss_one (ps_expr (pe_bm PySem.F.plainAttrs_list PySem.F.slot_list_append PySem.F.type_list_append mt_append (pv 2) (pa_cons (pv 9) pa_nil))))) pss_nil))))))))
      (pss_one (ps_ret (pv 1)))), ?_⟩
    have hR7 := hH.r7
    have hR1 := hH.r1
    have hlen := hH.len
    refine fun kd hkd => ?_
    have e1 := same_upd (o := .dK []) hkd
    have g1 : (upd H kd (.dK [])) kd = some (.dK []) := upd_same
    generalize upd H kd (.dK []) = H1 at e1 g1 ⊢
    refine ⟨g1, [(Sum.inl 0, .bl true)], rfl, (by decide : 1 ≤ 15), ?_⟩
    have hkv : mergeK [] [((Sum.inl 0 : Key), V.bl true)] = [(Sum.inl 0, V.bl true)] := rfl
    rw [hkv]
    have e3 : Same H (upd H1 kd (.dK [(Sum.inl 0, .bl true)])) := same_write e1 hkd
    have g3 : (upd H1 kd (.dK [(Sum.inl 0, .bl true)])) kd = some (.dK [(Sum.inl 0, .bl true)]) := upd_same
    generalize upd H1 kd (.dK [(Sum.inl 0, .bl true)]) = H3 at e3 g3 ⊢
    refine ⟨(by decide : 1 ≤ sizeLine), fun qd hqd => ?_⟩
    have e4 := same_upd (o := .lst [.int 0]) hqd
    have g4 : (upd H3 qd (.lst [.int 0])) qd = some (.lst [.int 0]) := upd_same
    have g34 := e4 _ _ g3
    have hqH : H qd = none := e3.free hqd
    have W0 : JnSt R H (upd H3 qd (.lst [.int 0])) kd qd [(0, ())] [0] := ⟨e3.trans e4, ⟨_, g34, .cons ⟨rfl, trivial⟩ .nil⟩, g4, by simp, fun e he => by
      have e1 : e = (0, ()) := by simpa using he
      subst e1
      exact ⟨by decide, by show (0 : Int) < R; omega⟩, Nat.le_refl _, ⟨_, List.mem_cons_self, rfl⟩⟩
    generalize upd H3 qd (.lst [.int 0]) = H4 at W0 ⊢
    refine ⟨_, _, rfl, ?_⟩
    refine ⟨fun m σ H' => ∃ (es : List (Int × Unit)) (ls : List Int) (v3 v4 v5 v6 v7 v8 v9 : Option V), m = (R - es.length) + ls.length ∧ σ = [some (.ref D), some (.ref kd), some (.ref qd), v3, v4, v5, v6, v7, v8, v9] ∧ JnSt R H H' kd qd es ls ∧ (∀ e ∈ es, e.1 ∈ ls ∨ ∀ d ∈ ds, Nbr d es e.1),
      ⟨_, [(0, ())], [0], none, none, none, none, none, none, none, rfl, rfl, W0, fun e he => .inl (by have e1 : e = (0, ()) := by simpa using he
                                                                                                       subst e1
                                                                                                       exact List.mem_cons_self)⟩, ?_⟩
    rintro m σ H5 ⟨es, ls, v3, v4, v5, v6, v7, v8, v9, em, rfl, W5, C5⟩
    refine ⟨_, rfl, (by decide : 0 ≤ sizeLine), fun t5 ht5 => ?_⟩
    have e6 := same_upd (o := .lst []) ht5
    have g6 : (upd H5 t5 (.lst [])) t5 = some (.lst []) := upd_same
    have W6 := W5.step e6
    generalize upd H5 t5 (.lst []) = H6 at e6 g6 W6 ⊢
    refine ⟨_, _, dp_list W6.qu, dp_nil g6, shaped_list _, rfl, _, rfl, ?_⟩
    show if (!PyData.eqvAll (ls.map PyData.int) []) = true then _ else _
    rw [eqvAll_nil]
    rcases List.eq_nil_or_concat ls with rfl | ⟨ls0, here, rfl⟩
    · refine iteF ?_
      obtain ⟨kvs, hk6, hkr⟩ := W6.kn
      refine ⟨_, rfl, k H6 kd kvs es W6.same hk6 hkr fun r r0 r1 => ?_⟩
      refine hH.conn (Seen1 es) (fun d hd => ⟨fun z => ?_, fun z => ?_⟩) 0 r (by decide) (by omega) r0 r1 W6.st
      · obtain ⟨e, he, q⟩ := z
        rcases C5 e he with z | z
        · cases z
        · exact (z d hd).1 q.symm
      · obtain ⟨e, he, q⟩ := z
        rcases C5 e he with z | z
        · cases z
        · exact (z d hd).2 q.symm
    · have enn : (!(ls0.concat here).isEmpty) = true := by rw [List.concat_eq_append]; cases ls0 <;> rfl
      refine if_true_of' (by first | exact enn | (rw [List.concat_eq_append]; cases ls0 <;> rfl)) ?_
      rw [List.concat_eq_append] at em W6 C5
      refine ⟨fun σ' H' => ∃ m', m' < m ∧ ∃ (es : List (Int × Unit)) (ls : List Int) (v3 v4 v5 v6 v7 v8 v9 : Option V), m' = (R - es.length) + ls.length ∧ σ' = [some (.ref D), some (.ref kd), some (.ref qd), v3, v4, v5, v6, v7, v8, v9] ∧ JnSt R H H' kd qd es ls ∧ (∀ e ∈ es, e.1 ∈ ls ∨ ∀ d ∈ ds, Nbr d es e.1), fun _ _ z => z, ?_⟩
      have hq6 := W6.qu
      obtain ⟨kvs6, hk6, hkr6⟩ := W6.kn
      have nkq : qd ≠ kd := ne_of hq6 hk6 (by intro z; cases z)
      have eml : (ls0 ++ [here]).map V.int = ls0.map V.int ++ [V.int here] := by rw [List.map_append]; rfl
      refine ⟨_, rfl, .inl ⟨rfl, _, SqL.of hq6⟩, qd, _, V.int here, rfl, rfl, hq6, by rw [eml, List.length_append, List.length_singleton, Nat.add_sub_cancel, List.getElem?_append_right (Nat.le_refl _), Nat.sub_self]; rfl, ?_⟩
      rw [eml, List.dropLast_concat]
      have tk7 := tk_lst (o := .lst (ls0.map V.int)) hq6
      have W7 : JnSt R H (upd H6 qd (.lst (ls0.map V.int))) kd qd es ls0 := ⟨same_write W6.same hqH, ⟨kvs6, by rw [upd_ne nkq.symm]; exact hk6, hkr6⟩, upd_same, W6.nd, W6.bd, by have := W6.ll; rw [List.length_append] at this; omega, W6.st⟩
      generalize upd H6 qd (.lst (ls0.map V.int)) = H7 at W7 ⊢
      refine ⟨_, rfl, ?_⟩
      obtain ⟨vs, hD, hP⟩ := id hI
      have hD7 := W7.same _ _ hD
      refine ⟨D, rfl, ⟨_, SqT.of hD7⟩, for_tup (K := K) (a := D) (xs := vs) (fun j σ H' => ∃ (fs : List (Int × Unit)) (v4 v5 v6 v7 v8 v9 : Option V), σ = [some (.ref D), some (.ref kd), some (.ref qd), some (.int here), v4, v5, v6, v7, v8, v9] ∧ JnSt R H H' kd qd (es ++ fs) (ls0 ++ fs.map (·.1)) ∧ ∀ d ∈ ds.take j, Nbr d (es ++ fs) here)
        ⟨[], _, _, _, _, _, _, rfl, by rw [List.append_nil, List.map_nil, List.append_nil]; exact W7, fun d hd => by simp at hd⟩ (fun i σ H' _ ⟨_, _, _, _, _, _, _, _, W, _⟩ => SqT.of (W.same _ _ hD)) ?_ ?_⟩
      · rintro j x σ H8 hx ⟨fs, v4, v5, v6, v7, v8, v9, rfl, W8, N8⟩
        obtain ⟨d, hd, a, rfl, ha⟩ := pair_at' hP hx
        have hdo := hH.ok d (List.mem_of_getElem? hd)
        refine ⟨a, _, rfl, SqT.of (W8.same _ _ ha), rfl, ⟨_, _, rfl, _, _, rfl, _, _, rfl, _, _, rfl, rfl, ?_⟩⟩
        refine ⟨_, rfl, _, rfl, (by decide : 2 ≤ sizeLine), fun t1 ht1 => ?_⟩
        have e9 := same_upd (o := .tup [V.int d.n, V.int d.r]) ht1
        have g9 : (upd H8 t1 (.tup [V.int d.n, V.int d.r])) t1 = some (.tup [V.int d.n, V.int d.r]) := upd_same
        have W9 := W8.step e9
        generalize upd H8 t1 (.tup [V.int d.n, V.int d.r]) = H9 at e9 g9 W9 ⊢
        refine ⟨_, rfl, _, rfl, (by decide : 2 ≤ sizeLine), fun t2 ht2 => ?_⟩
        have eA := same_upd (o := .tup [V.int d.r, V.int d.n]) ht2
        have gA : (upd H9 t2 (.tup [V.int d.r, V.int d.n])) t2 = some (.tup [V.int d.r, V.int d.n]) := upd_same
        have W10 := W9.step eA
        have g9A := eA _ _ g9
        generalize upd H9 t2 (.tup [V.int d.r, V.int d.n]) = HA at eA gA W10 g9A ⊢
        refine ⟨(by decide : 2 ≤ sizeLine), fun t3 ht3 => ?_⟩
        have eB := same_upd (o := .tup [V.ref t1, V.ref t2]) ht3
        have gB : (upd HA t3 (.tup [V.ref t1, V.ref t2])) t3 = some (.tup [V.ref t1, V.ref t2]) := upd_same
        have W11 := W10.step eB
        have g9B := eB _ _ g9A
        have gAB := eB _ _ gA
        generalize upd HA t3 (.tup [V.ref t1, V.ref t2]) = HB at eB gB W11 g9B gAB ⊢
        refine ⟨t3, rfl, ⟨_, SqT.of gB⟩, for_tup (K := K) (a := t3) (xs := [V.ref t1, V.ref t2]) (fun i σ H' => ∃ (fs : List (Int × Unit)) (v8 v9 : Option V), σ = [some (.ref D), some (.ref kd), some (.ref qd), some (.int here), some (.int d.n), some (.int d.f), some (.int d.r), some (.int d.s), v8, v9] ∧ JnSt R H H' kd qd (es ++ fs) (ls0 ++ fs.map (·.1)) ∧ H' t1 = some (.tup [V.int d.n, V.int d.r]) ∧ H' t2 = some (.tup [V.int d.r, V.int d.n]) ∧ H' t3 = some (.tup [V.ref t1, V.ref t2]) ∧ (∀ d ∈ ds.take j, Nbr d (es ++ fs) here) ∧ ∀ q ∈ [(d.n, d.r), (d.r, d.n)].take i, q.1 = here → Seen1 (es ++ fs) q.2)
          ⟨fs, _, _, rfl, W11, g9B, gAB, gB, N8, fun q hq => by simp at hq⟩ (fun i σ H' _ ⟨_, _, _, _, _, _, _, g, _⟩ => SqT.of g) ?_ ?_⟩
        · rintro i x σ HC hx ⟨fs, v8, v9, rfl, W12, h1, h2, h3, N12, M12⟩
          obtain ⟨t, p, hp, rfl, ht, pb⟩ : ∃ (t : Addr) (p : Int × Int), [(d.n, d.r), (d.r, d.n)][i]? = some p ∧ x = .ref t ∧ HC t = some (.tup [V.int p.1, V.int p.2]) ∧ 0 ≤ p.2 ∧ p.2 < R := by
            match i, hx with
            | 0, hx => exact ⟨t1, _, rfl, (Option.some.inj hx).symm, h1, hdo.2.2.1, hdo.2.2.2.1⟩
            | 1, hx => exact ⟨t2, _, rfl, (Option.some.inj hx).symm, h2, hdo.1, hdo.2.1⟩
            | n + 2, hx => simp at hx
          refine ⟨t, _, rfl, SqT.of ht, rfl, ⟨_, _, rfl, _, _, rfl, rfl, ?_⟩⟩
          refine ⟨_, rfl, _, rfl, rfl, _, rfl, ?_⟩
          by_cases cn : p.1 = here
          · refine if_true_of' (by rw [cn]; exact decide_eq_true rfl) ?_
            obtain ⟨kvs, hk, hkr⟩ := W12.kn
            refine ⟨_, rfl, _, rfl, kd, _, rfl, DGet.k (k := Sum.inl p.2) hk, _, rfl, ?_⟩
            by_cases cs : Seen1 (es ++ fs) p.2
            · obtain ⟨v, e', hv, _⟩ := krel_some hkr cs
              rw [hv]
              refine iteF ?_
              refine ⟨fs, _, _, rfl, W12, h1, h2, h3, N12, fun q hq hn => ?_⟩
              rw [take_more hp] at hq
              rcases List.mem_append.mp hq with z | z
              · exact M12 q z hn
              · rw [List.mem_singleton.mp z]
                exact cs
            · have hno : ∀ e' ∈ es ++ fs, e'.1 ≠ p.2 := fun e' he' z => cs ⟨e', he', z⟩
              rw [krel_none hkr hno]
              refine iteT ?_
              have hle := W12.le
              have hll := W12.ll
              have hlenk : kvs.length < sizeLine := small_line (by rw [hkr.length]; omega)
              refine ⟨_, rfl, _, rfl, kd, _, rfl, DPut.k (k := Sum.inl p.2) hk hlenk, ?_⟩
              have hqB := W12.qu
              have tkC := tk_dK (o := .dK (putK kvs (Sum.inl p.2) (.bl true))) hk
              have hqC : (upd HC kd (.dK (putK kvs (Sum.inl p.2) (.bl true)))) qd = some (.lst ((ls0 ++ fs.map (·.1)).map V.int)) := by rw [upd_ne nkq]; exact hqB
              have hkC : (upd HC kd (.dK (putK kvs (Sum.inl p.2) (.bl true)))) kd = some (.dK (putK kvs (Sum.inl p.2) (.bl true))) := upd_same
              have sC : Same H (upd HC kd (.dK (putK kvs (Sum.inl p.2) (.bl true)))) := same_write W12.same hkd
              generalize upd HC kd (.dK (putK kvs (Sum.inl p.2) (.bl true))) = HD at tkC hqC hkC sC ⊢
              have hql : ((ls0 ++ fs.map (·.1)).map V.int).length < sizeLine := small_line (by rw [List.length_map]; omega)
              have tkD := tk_lst (o := .lst ((ls0 ++ fs.map (·.1)).map V.int ++ [V.int p.2])) hqC
              refine ⟨_, rfl, .inl ⟨rfl, _, SqL.of hqC⟩, _, rfl, qd, _, _, rfl, rfl, hqC, hql, ?_⟩
              refine ⟨fs ++ [(p.2, ())], _, _, rfl, ⟨same_write sC hqH, ⟨putK kvs (Sum.inl p.2) (.bl true), ?_, ?_⟩, ?_, ?_, ?_, ?_, ?_⟩, tkD.1 _ _ (tkC.1 _ _ h1), tkD.1 _ _ (tkC.1 _ _ h2), tkD.1 _ _ (tkC.1 _ _ h3), ?_, ?_⟩
              · rw [upd_ne nkq.symm]
                exact hkC
              · rw [← List.append_assoc]
                exact krel_put hkr hno trivial
              · rw [upd_same, List.map_append (f := fun x : Int × Unit => x.1), ← List.append_assoc, List.map_append (l₁ := ls0 ++ _)]
                rfl
              · rw [← List.append_assoc, List.map_append, List.map_cons, List.map_nil]
                refine List.nodup_append.mpr ⟨W12.nd, by simp, fun x hx y hy => ?_⟩
                obtain ⟨e', he', q⟩ := List.mem_map.mp hx
                have hy : y = p.2 := by simpa using hy
                rw [hy, ← q]
                exact hno e' he'
              · intro e he
                rw [← List.append_assoc] at he
                rcases List.mem_append.mp he with z | z
                · exact W12.bd e z
                · rw [List.mem_singleton.mp z]
                  exact pb
              · rw [List.map_append, ← List.append_assoc, ← List.append_assoc, List.length_append, List.length_append (bs := [(p.2, ())])]
                have e1 : (List.map (fun x : Int × Unit => x.1) [(p.2, ())]).length = 1 := rfl
                have e2 : [(p.2, ())].length = 1 := rfl
                omega
              · rw [← List.append_assoc]
                exact W12.st.more
              · intro d hd
                rw [← List.append_assoc]
                exact (N12 d hd).more
              · intro q hq hn
                rw [← List.append_assoc]
                rw [take_more hp] at hq
                rcases List.mem_append.mp hq with z | z
                · exact (M12 q z hn).more
                · rw [List.mem_singleton.mp z]
                  exact ⟨_, List.mem_append_right _ List.mem_cons_self, rfl⟩
          · refine if_false_of' (decide_eq_false (fun z => cn (V.int.inj z))) ?_
            refine iteF ?_
            refine ⟨fs, _, _, rfl, W12, h1, h2, h3, N12, fun q hq hn => ?_⟩
            rw [take_more hp] at hq
            rcases List.mem_append.mp hq with z | z
            · exact M12 q z hn
            · rw [List.mem_singleton.mp z] at hn
              exact absurd hn cn
        · rintro σ HC ⟨fs, v8, v9, rfl, W12, h1, h2, h3, N12, M12⟩
          refine ⟨fs, _, _, _, _, _, _, rfl, W12, fun d' hd' => ?_⟩
          rw [take_more hd] at hd'
          rcases List.mem_append.mp hd' with z | z
          · exact N12 d' z
          · rw [List.mem_singleton.mp z]
            exact ⟨fun z => M12 (d.n, d.r) List.mem_cons_self z, fun z => M12 (d.r, d.n) (List.mem_cons_of_mem _ List.mem_cons_self) z⟩
      · rintro σ H8 ⟨fs, v4, v5, v6, v7, v8, v9, rfl, W8, N8⟩
        rw [hP.length, List.take_length] at N8
        have hle8 := W8.le
        rw [List.length_append] at hle8
        refine ⟨(R - (es ++ fs).length) + (ls0 ++ fs.map (·.1)).length, ?_, es ++ fs, ls0 ++ fs.map (·.1), _, _, _, _, _, _, _, rfl, rfl, W8, fun e he => ?_⟩
        · rw [List.length_append, List.length_append, List.length_map, em, List.length_append, List.length_singleton]
          omega
        · rcases List.mem_append.mp he with q | q
          · rcases C5 e q with z | z
            · rcases List.mem_append.mp z with c | c
              · exact .inl (List.mem_append_left _ c)
              · rw [List.mem_singleton.mp c]
                exact .inr N8
            · exact .inr fun d hd => (z d hd).more
          · exact .inl (List.mem_append_right _ (List.mem_map.mpr ⟨e, q, rfl⟩))
end
end K19

set_option Elab.async false
set_option linter.all false
set_option maxRecDepth 100000
set_option maxHeartbeats 4000000
/-! The program: a house made; a house asked for. -/
namespace K19
open PySem L2

def spHouseInit (C : Addr) : Sp := fun vs H Q _ => ∃ (x dx D : Addr) (R : Nat) (ds : List Dr), vs = [.ref x, .int (R : Int), .ref D] ∧ H x = some (.ins C dx []) ∧ IsDoors H D ds ∧ House R ds ∧
  ∀ H' : Hp, (∀ b o, b ≠ x → H b = some o → H' b = some o) → H' x = some (.ins C dx [("rooms", .int (R : Int)), ("doors", .ref D)]) → Q .non H'
/-- what the written part says of House's instances, and of BadHouse -/
structure HIs (K : PySem.W.Frag) (mg : Str → Option Value) (C CB : Addr) : Prop where
  ha : PySem.W.findIn K (.ref C) "__class__" = some (some (.builtin "object.__class__"))
  hn : PySem.W.specialIn K (.builtin "object.__class__") "__get__" = some (some (.builtin "getset_descriptor.__get__"))
  htk : PySem.W.takesIn K (.builtin "object.__class__") = some true
  hm : PySem.W.mroIn K C (.type "object") = some true
  me : PySem.W.kitOne K (.ref C) (.ref C) = some true
  xB : ∃ i j bm, ExcBaseFacts "ValueError" i j bm ∧ PySem.W.excIn K CB bm i = true
  gB : mg "BadHouse" = some (.ref CB)
  kB : PySem.W.keepIn K (.ref CB) = true
  sB : PySem.W.subIn K (.ref CB) (.type "BaseException") = some true
  tB : PySem.W.typeIn K (.ref CB) = some (.type "type")
/-- no house -/
def NoHouse (K : PySem.W.Frag) (C : Addr) (H : Hp) (v : V) : Prop := ∃ t, TyX K H v t ∧ PySem.W.kitOne K t (.ref C) = some false
def spNeed (K : PySem.W.Frag) (C CB : Addr) : Sp := fun vs H Q E => ∃ v, vs = [v] ∧ ((∃ h R ds, v = .ref h ∧ IsHouse C H h R ds ∧ Q .non H) ∨ (NoHouse K C H v ∧ E (.ref CB) none H))

section
variable {P : Program} {w : World} {K : PySem.W.Frag} {mg : Str → Option Value} {base : Heap} {f C CB : Addr} {fd : FuncData}
theorem isHouse_ty {H : Hp} {h : Addr} {R : Nat} {ds : List Dr} (T : HTxt K mg C) (Z : HIs K mg C CB) (hI : IsHouse C H h R ds) : TyX K H (.ref h) (.ref C) := by
  obtain ⟨dx, D, e, _⟩ := hI
  exact .base (.ins e T.cl Z.ha Z.hn Z.htk Z.hm)
theorem ok_house_init (F : Fun K "__init__" "House.__init__" s_house_init f fd) (B : Blt mg) (Z : Consts mg) (T : HTxt K mg C) (DN : DefAt P w K mg base CX0 1 "is_number" a_p_is_number spWhole) (DD : DefAt P w K mg base CX0 4 "are_doors" a_p_are_doors spAreDoors) (DJ : DefAt P w K mg base CX0 1 "joined_rooms" a_p_joined_rooms spJoined) : FnOk P w K mg base CX0 5 f fd a_house_init (spHouseInit C) := by
  obtain ⟨tg, hg⟩ := Z.rooms
  refine F.ok sc_house_init (fun vs H Q E h => ?_) (fun cdv A outer s H vs Q E hr h => ?_)
  · obtain ⟨x, dx, D, R, ds, rfl, _⟩ := h
    rfl
  · obtain ⟨x, dx, D, R, ds, rfl, hx, hI, hH, k⟩ := h
    have hu := hu_of hr
    have hr1 : Room 1 _ := hr.mono (by decide)
    refine ⟨_, pss_cons (ps_if (PW.pt (pw_or (pt_not (pt_val (pe_def DN hr1 rfl (pa_cons (pv 1) pa_nil)))) (pw_or1 (pt_not (pt_chain op_le op_le pe_int (pv 1) (pe_glob (v := .int 12) rfl hg ⟨_, rfl⟩)))))) (pss_one ps_never) pss_nil)
      (pss_cons (ps_if (pt_not (pt_val (pe_def DD hr rfl (pa_cons (pv 2) (pa_cons (pv 1) pa_nil))))) (pss_one ps_never) pss_nil)
      (pss_cons (ps_set (i := 3) sc_house_init.nd rfl (Or.inl rfl) (pe_def DJ hr1 rfl (pa_cons (pv 2) pa_nil)))
      (pss_cons (ps_for PassesOwn.never rfl (pi_range1 rfl B.range (pa_cons (pv 1) pa_nil)) (pg_name (i := 4) sc_house_init.nd rfl (Or.inl rfl))
        (pss_one (ps_if (pt_cmp (pc_dnotin hu (pv 4) (pv 3))) (pss_one ps_never) pss_nil)))
      (pss_cons (ps_fld (pv 0) (pv 1) (by rfl))
      (pss_one (ps_fld (pv 0) (pv 2) (by rfl))))))), ?_⟩
    have hR7 := hH.r7
    have hR1 := hH.r1
    have hlen := hH.len
    refine ⟨_, rfl, .inl ⟨_, rfl, _, rfl, iteF ⟨_, rfl, _, _, rfl, rfl, _, rfl, ?_⟩⟩⟩
    refine if_true_of' (decide_eq_true (by omega)) ⟨_, _, rfl, rfl, _, rfl, ?_⟩
    refine if_false_of' (by rw [decide_eq_true (show (R : Int) ≤ 12 by omega)]; rfl) ?_
    refine ⟨_, rfl, _, rfl, D, R, ds, rfl, hI, by omega, hH.ok, fun H1 e1 => ⟨_, rfl, iteF ?_⟩⟩
    refine ⟨_, rfl, D, R, ds, rfl, hI.tk (tk_of e1), hH, fun H2 kd kvs es e2 hkd hkr hall => ?_⟩
    refine ⟨_, rfl, _, rfl, by omega, by omega, for_range (lo := 0) (n := (R : Int).toNat) (fun i σ H' => ∃ v4, σ = [some (.ref x), some (.int (R : Int)), some (.ref D), some (.ref kd), v4] ∧ H' = H2) ⟨none, rfl, rfl⟩ ?_ ?_⟩
    · rintro i σ H3 hi ⟨v4, rfl, rfl⟩
      refine ⟨_, rfl, _, rfl, kd, _, rfl, DGet.k (k := Sum.inl (0 + (i : Int))) hkd, _, rfl, ?_⟩
      obtain ⟨v, e', hv, _⟩ := krel_some hkr (hall (0 + (i : Int)) (by omega) (by omega))
      rw [hv]
      exact iteF ⟨_, rfl, rfl⟩
    · rintro σ H3 ⟨v4, rfl, rfl⟩
      have hx3 := e2 _ _ (e1 _ _ hx)
      refine ⟨_, rfl, _, rfl, x, C, dx, _, rfl, hx3, T.cl, T.nR, by decide, ?_⟩
      refine ⟨_, rfl, _, rfl, x, C, dx, _, rfl, upd_same, T.cl, T.nD, (by decide : 1 < 1000), ?_⟩
      refine k _ (fun b o hb ho => ?_) ?_
      · rw [upd_ne hb, upd_ne hb]
        exact e2 _ _ (e1 _ _ ho)
      · rw [upd_same]
        rfl
theorem ok_need (F : Fun K "need_house" "need_house" s_p_need_house f fd) (B : Blt mg) (T : HTxt K mg C) (Z : HIs K mg C CB) : FnOk P w K mg base (L2.CX P w) 1 f fd a_p_need_house (spNeed K C CB) := by
  obtain ⟨ei, ej, ebm, eF, ex⟩ := Z.xB
  refine F.okX sc_p_need_house (fun vs H Q E h => ?_) (fun cdv A outer s H vs Q E hr h => ?_)
  · obtain ⟨v, rfl, _⟩ := h
    rfl
  · obtain ⟨v, rfl, h⟩ := h
    refine ⟨_, pss_one (ps_if (pt_not (pt_val (pe_callB call_isi (by rfl) B.isinstance (by decide +kernel) (pa_cons (pv 0) (pa_cons (pe_glob (v := .ref C) rfl T.mgC rfl) pa_nil)))))
      (pss_one (ps_raise rfl (takes_of rfl rfl rfl rfl) (pmk_own eF ex Z.gB Z.kB (raises_own Z.sB Z.tB) (by exact rfl)))) pss_nil), ?_⟩
    rcases h with ⟨h, R, ds, rfl, hI, k⟩ | ⟨⟨t, ht, hk⟩, k⟩
    · exact ⟨_, rfl, _, _, _, _, _, rfl, .own C, isHouse_ty T Z hI, Z.me, _, rfl, iteF k⟩
    · exact ⟨_, rfl, _, _, _, _, _, rfl, .own C, ht, hk, _, rfl, iteT k⟩
end
end K19

set_option Elab.async false
set_option linter.all false
set_option maxRecDepth 100000
set_option maxHeartbeats 4000000
/-! The program: rounds, signs. -/
namespace K19
open PySem L2

/-- the way that a search has found to r -/
def wayOf : List (Int × List Stp) → Int → List Stp
  | [], _ => []
  | e :: es, r => if e.1 = r then e.2 else wayOf es r
theorem wayOf_mem : ∀ {es : List (Int × List Stp)} {r : Int}, Seen es r → ∃ e ∈ es, e.1 = r ∧ e.2 = wayOf es r
  | [], r, ⟨e, he, _⟩ => by cases he
  | e :: es, r, ⟨e', he', er⟩ => by
    by_cases c : e.1 = r
    · exact ⟨e, List.mem_cons_self, c, by unfold wayOf; rw [if_pos c]⟩
    · rcases List.mem_cons.mp he' with q | q
      · subst q
        exact absurd er c
      · obtain ⟨e2, h1, h2, h3⟩ := wayOf_mem ⟨e', q, er⟩
        exact ⟨e2, List.mem_cons_of_mem _ h1, h2, by unfold wayOf; rw [if_neg c]; exact h3⟩
theorem krel_way {Rl : V → List Stp → Prop} {r : Int} : ∀ {kvs : List (Key × V)} {es : List (Int × List Stp)}, KRel Rl kvs es → Seen es r → ∃ v, valV kvs (Sum.inl r) = some v ∧ Rl v (wayOf es r)
  | _, _, .nil, ⟨e, he, _⟩ => by cases he
  | _, _, .cons (a := kv) (b := e) h t, ⟨e', he', er⟩ => by
    by_cases c : e.1 = r
    · exact ⟨kv.2, valV_pos (by rw [h.1, c]), by unfold wayOf; rw [if_pos c]; exact h.2⟩
    · rw [valV_neg (fun z => c (by rw [h.1] at z; exact Sum.inl.inj z))]
      rcases List.mem_cons.mp he' with q | q
      · subst q
        exact absurd er c
      · obtain ⟨v, h1, h2⟩ := krel_way t ⟨e', q, er⟩
        exact ⟨v, h1, by unfold wayOf; rw [if_neg c]; exact h2⟩
/-- a way to each room -/
def Ways (ds : List Dr) (R : Nat) (W : Int → List Stp) : Prop := ∀ r : Int, 0 ≤ r → r < R → Path ds 0 r (W r) ∧ (W r).length < 7
theorem Found.ways {ds : List Dr} {R : Nat} {es : List (Int × List Stp)} (h : Found ds R 0 es) (r7 : R ≤ 7) (hs : ∀ r : Int, 0 ≤ r → r < R → Seen es r) : Ways ds R (wayOf es) := fun r r0 r1 => by
  obtain ⟨e, he, e1, e2⟩ := wayOf_mem (hs r r0 r1)
  obtain ⟨f0, f1, f2, f3⟩ := h.ok e he
  have := h.le
  rw [← e2, ← e1]
  exact ⟨f2, by omega⟩
def rnd (W : Int → List Stp) (i : Nat) (d : Dr) : List Stp := (W d.n ++ [((i : Int), 0)]) ++ turnBack (W d.r)
def rounds (W : Int → List Stp) (ds : List Dr) (n : Nat) : List (List Stp) := (List.range n).map fun i => rnd W i (ds.getD i ⟨0, 0, 0, 0⟩)
theorem rounds_succ {W : Int → List Stp} {ds : List Dr} {n : Nat} : rounds W ds (n + 1) = rounds W ds n ++ [rnd W n (ds.getD n ⟨0, 0, 0, 0⟩)] := by
  unfold rounds
  rw [List.range_succ, List.map_append]
  rfl
theorem turnBack_len {ps : List Stp} : (turnBack ps).length = ps.length := by
  unfold turnBack
  rw [List.length_map, List.length_reverse]
def IsWk (H : Hp) (v : V) (ps : List Stp) : Prop := ∃ a, v = .ref a ∧ IsWalk H a 0 ps
theorem wks_tk {H H' : Hp} {vs : List V} {pss : List (List Stp)} (h : Paired (IsWk H) vs pss) (k : TK H H') : Paired (IsWk H') vs pss := L2.Paired.mapP h fun _ _ ⟨a, e, z⟩ => ⟨a, e, z.tk k⟩
def spRounds (C : Addr) : Sp := fun vs H Q _ => ∃ (h : Addr) (R : Nat) (ds : List Dr), vs = [.ref h] ∧ IsHouse C H h R ds ∧ House R ds ∧
  ∀ (H' : Hp) (l : Addr) (vs : List V) (W : Int → List Stp), Same H H' → H' l = some (.lst vs) → Ways ds R W → Paired (IsWk H') vs (rounds W ds ds.length) → Q (.ref l) H'

/-! ### signs -/
def IB (x : V) : Prop := (∃ i, x = .int i) ∨ ∃ b, x = .bl b
/-- xs are signs that fit -/
def Right (R : Nat) (ds : List Dr) (xs : List V) : Prop := ∃ ns : List Int, xs = ns.map V.int ∧ ns.length = R ∧ (∀ n ∈ ns, n = 1 ∨ n = -1) ∧ ∀ d ∈ ds, 0 < d.f * d.s * ns.getD d.n.toNat 0 * ns.getD d.r.toNat 0
def NoTup (K : PySem.W.Frag) (H : Hp) (v : V) : Prop := ∃ t, TyX K H v t ∧ PySem.W.kitOne K t (.type "tuple") = some false
/-- is it signs that fit? -/
def spRightS (K : PySem.W.Frag) (C : Addr) : Sp := fun vs H Q _ => ∃ (h : Addr) (v : V) (R : Nat) (ds : List Dr), vs = [.ref h, v] ∧ IsHouse C H h R ds ∧ House R ds ∧
  ((NoTup K H v ∧ Q (.bl false) H) ∨ ∃ (a : Addr) (xs : List V), v = .ref a ∧ H a = some (.tup xs) ∧ (∀ x ∈ xs, IB x) ∧ xs.length ≤ 100 ∧ ∀ (H' : Hp) (b : Bool), Same H H' → (b = true ↔ Right R ds xs) → Q (.bl b) H')
/-- is x a sign? -/
def sgV : V → Bool
  | .int i => decide (i = 1 ∨ i = -1)
  | _ => false
theorem inV_sg {i : Int} : inV (.int i) [.int 1, .int (-1)] = decide (i = 1 ∨ i = -1) := by
  unfold inV
  rw [List.any_cons, List.any_cons, List.any_nil, Bool.or_false]
  show ((1 : Int) == i || (-1 : Int) == i) = _
  rw [Bool.eq_iff_iff, Bool.or_eq_true, decide_eq_true_iff, beq_iff_eq, beq_iff_eq]
  constructor
  · rintro (h | h)
    · exact .inl h.symm
    · exact .inr h.symm
  · rintro (h | h)
    · exact .inl h.symm
    · exact .inr h.symm
theorem sgs_ints : ∀ {xs : List V}, xs.all sgV = true → ∃ ns : List Int, xs = ns.map V.int ∧ ∀ n ∈ ns, n = 1 ∨ n = -1
  | [], _ => ⟨[], rfl, fun n hn => by cases hn⟩
  | x :: xs, h => by
    rw [List.all_cons, Bool.and_eq_true] at h
    obtain ⟨ns, e, hn⟩ := sgs_ints h.2
    cases x with
    | int i =>
      refine ⟨i :: ns, by rw [e]; rfl, fun n hn' => ?_⟩
      rcases List.mem_cons.mp hn' with q | q
      · subst q
        exact of_decide_eq_true h.1
      · exact hn n q
    | _ => exact absurd h.1 (by intro z; cases z)
theorem sgs_all {ns : List Int} (h : ∀ n ∈ ns, n = 1 ∨ n = -1) : (ns.map V.int).all sgV = true := by
  rw [List.all_eq_true]
  intro x hx
  obtain ⟨n, hn, rfl⟩ := List.mem_map.mp hx
  exact decide_eq_true (h n hn)
theorem atI_map {ns : List Int} {r : Int} (r0 : 0 ≤ r) (r1 : r < ns.length) : atI (ns.map V.int) r = some (.int (ns.getD r.toNat 0)) := by
  refine atI_of r0 ?_
  rw [List.getElem?_map, getD_at (d := 0) (show r.toNat < ns.length by omega)]
  rfl
theorem getD_pm {ns : List Int} (h : ∀ n ∈ ns, n = 1 ∨ n = -1) {i : Nat} (hi : i < ns.length) : ns.getD i 0 = 1 ∨ ns.getD i 0 = -1 := h _ (getD_mem hi)

section
variable {P : Program} {w : World} {K : PySem.W.Frag} {mg : Str → Option Value} {base : Heap} {f C CB : Addr} {fd : FuncData}
theorem ok_rounds (F : Fun K "rounds_of" "rounds_of" s_p_rounds_of f fd) (B : Blt mg) (T : HTxt K mg C) (DW : DefAt P w K mg base CX0 2 "ways_out" a_p_ways_out (spWaysOut C)) (DB : DefAt P w K mg base CX0 1 "bare_walk" a_p_bare_walk spBare) (DT : DefAt P w K mg base CX0 1 "turned" a_p_turned spTurned) : FnOk P w K mg base CX0 3 f fd a_p_rounds_of (spRounds C) := by
  refine F.ok sc_p_rounds_of (fun vs H Q E h => ?_) (fun cdv A outer s H vs Q E hr h => ?_)
  · obtain ⟨h, R, ds, rfl, _⟩ := h
    rfl
  · obtain ⟨h, R, ds, rfl, hI, hH, k⟩ := h
    have hu := hu_of hr
    have hr1 : Room 1 _ := hr.mono (by decide)
    refine ⟨_, pss_cons (ps_set (i := 1) sc_p_rounds_of.nd rfl (Or.inl rfl) (pe_def DW hr rfl (pa_cons (pv 0) pa_nil)))
      (pss_cons (ps_set (i := 2) sc_p_rounds_of.nd rfl (Or.inl rfl) (pe_lst pa_nil))
      (pss_cons (ps_for PassesOwn.never rfl (pi_enumT (by rfl) B.enumerate (pa_cons (pe_fld (pv 0) rfl) pa_nil)) (pg_tup rfl (pgs_cons (pg_name (i := 3) sc_p_rounds_of.nd rfl (Or.inl rfl)) (pgs_cons (pg_name (i := 4) sc_p_rounds_of.nd rfl (Or.inl rfl)) pgs_nil)))
        (pss_one (ps_expr (pe_bm PySem.F.plainAttrs_list PySem.F.slot_list_append PySem.F.type_list_append mt_append (pv 2) (pa_cons
          (pe_def DB hr1 rfl (pa_cons pe_int (pa_cons (pe_op op_catA (pe_op op_catA (pe_dget hu (pv 1) (pe_ix ix_tup (pv 4) pe_int (fun _ _ => rfl)) (fun _ _ => rfl)) (pe_tup (pa_cons (pe_tup (pa_cons (pv 3) (pa_cons pe_int pa_nil))) pa_nil)))
            (pe_def DT hr1 rfl (pa_cons (pe_dget hu (pv 1) (pe_ix ix_tup (pv 4) pe_int (fun _ _ => rfl)) (fun _ _ => rfl)) pa_nil))) pa_nil))) pa_nil)))))
      (pss_one (ps_ret (pv 2))))), ?_⟩
    have hlen := hH.len
    obtain ⟨dx, D, hh, vs, hD, hP⟩ := id hI
    have hvl : vs.length = ds.length := hP.length
    refine ⟨_, rfl, h, R, ds, rfl, hI, hH, fun H1 kd kvs es e1 hkd hkr hF hs => ?_⟩
    have hW := hF.ways hH.r7 hs
    refine ⟨(by decide : 0 ≤ sizeLine), fun L hL => ?_⟩
    have e2 := same_upd (o := .lst []) hL
    refine ⟨_, rfl, h, C, dx, _, _, rfl, e2 _ _ (e1 _ _ hh), T.cl, T.nD, lk_doors, D, vs, rfl, SqT.of (e2 _ _ (e1 _ _ hD)), for_it walk_enumT (fun i σ H' => ∃ (us : List V) (v3 v4 : Option V), σ = [some (.ref h), some (.ref kd), some (.ref L), v3, v4] ∧ Same H1 H' ∧ H' L = some (.lst us) ∧ Paired (IsWk H') us (rounds (wayOf es) ds i))
      ⟨[], _, _, rfl, e2, upd_same, .nil⟩ (fun i σ H' _ ⟨_, _, _, _, e, _⟩ => SqT.of (e _ _ (e1 _ _ hD))) ?_ ?_⟩
    · rintro i x σ H2 H2' hi ⟨us, v3, v4, rfl, e3, hus, hPu⟩ ⟨tp, x1, y1, rfl, htp, rfl, hx1, hy1⟩
      obtain rfl : x1 = V.int (i : Nat) := (Option.some.inj hx1).symm
      obtain ⟨d, hd, a, rfl, ha⟩ := pair_at' hP hy1
      have hdo := hH.ok d (List.mem_of_getElem? hd)
      have edd : ds.getD i ⟨0, 0, 0, 0⟩ = d := by rw [List.getD_eq_getElem?_getD, hd]; rfl
      have e4 := same_upd (o := .tup [V.int (i : Nat), V.ref a]) htp
      have g4 : (upd H2 tp (.tup [V.int (i : Nat), V.ref a])) tp = some (.tup [V.int (i : Nat), V.ref a]) := upd_same
      have hus4 := e4 _ _ hus
      have hPu4 := wks_tk hPu (tk_of e4)
      have e34 := e3.trans e4
      generalize upd H2 tp (.tup [V.int (i : Nat), V.ref a]) = H4 at e4 g4 hus4 hPu4 e34 ⊢
      have ha4 := e34 _ _ (e1 _ _ ha)
      have hk4 := e34 _ _ hkd
      have hkr4 := krel_mono hkr fun _ _ z => z.tk (tk_of e34)
      refine ⟨tp, _, rfl, SqT.of g4, rfl, ⟨_, _, rfl, _, _, rfl, rfl, ?_⟩⟩
      obtain ⟨vn, hvn, qn, rfl, hqn⟩ := krel_way hkr4 (hs d.n hdo.1 hdo.2.1)
      obtain ⟨vr, hvr, qr, rfl, hqr⟩ := krel_way hkr4 (hs d.r hdo.2.2.1 hdo.2.2.2.1)
      obtain ⟨pn, ln⟩ := hW d.n hdo.1 hdo.2.1
      obtain ⟨pr, lr⟩ := hW d.r hdo.2.2.1 hdo.2.2.2.1
      refine ⟨_, rfl, .inl ⟨rfl, _, SqL.of hus4⟩, _, rfl, _, rfl, a, _, _, _, rfl, rfl, SqT.of ha4, rfl, kd, _, rfl, by rw [← hvn]; exact DGet.k (k := Sum.inl d.n) hk4, ?_⟩
      refine ⟨_, rfl, (by decide : 2 ≤ sizeLine), fun t1 ht1 => ?_⟩
      have e5 := same_upd (o := .tup [V.int (i : Nat), V.int 0]) ht1
      have g5 : (upd H4 t1 (.tup [V.int (i : Nat), V.int 0])) t1 = some (.tup [V.int (i : Nat), V.int 0]) := upd_same
      generalize upd H4 t1 (.tup [V.int (i : Nat), V.int 0]) = H5 at e5 g5 ⊢
      refine ⟨(by decide : 1 ≤ sizeLine), fun t2 ht2 => ?_⟩
      have e6 := same_upd (o := .tup [V.ref t1]) ht2
      have g6 : (upd H5 t2 (.tup [V.ref t1])) t2 = some (.tup [V.ref t1]) := upd_same
      have g56 := e6 _ _ g5
      have e46 := e5.trans e6
      generalize upd H5 t2 (.tup [V.ref t1]) = H6 at e6 g6 g56 e46 ⊢
      refine cat_stps (hqn.tk (tk_of e46)) (qs := [((i : Int), 0)]) ⟨_, g6, .cons ⟨t1, rfl, g56⟩ .nil⟩ (by show (wayOf es d.n).length + 1 < 10000; omega) fun H7 w1 e7 hw1 => ?_
      have e47 := e46.trans e7
      refine ⟨_, rfl, _, rfl, a, _, _, _, rfl, rfl, SqT.of (e47 _ _ ha4), rfl, kd, _, rfl, by rw [← hvr]; exact DGet.k (k := Sum.inl d.r) (e47 _ _ hk4), ?_⟩
      refine ⟨qr, _, rfl, hqr.tk (tk_of e47), by omega, fun H8 w2 e8 hw2 => ?_⟩
      refine cat_stps (hw1.tk (tk_of e8)) hw2 (by rw [turnBack_len, List.length_append, List.length_singleton]; omega) fun H9 w3 e9 hw3 => ?_
      refine ⟨w3, 0, rnd (wayOf es) i d, rfl, hw3, ?_, ?_, fun HA q eA hq => ?_⟩
      · unfold rnd
        rw [List.length_append, List.length_append, List.length_singleton]
        omega
      · unfold rnd
        rw [List.length_append, List.length_append, List.length_singleton, turnBack_len]
        omega
      have e4A := ((e47.trans e8).trans e9).trans eA
      have husA := e4A _ _ hus4
      have hul : us.length = i := by
        rw [hPu.length]
        unfold rounds
        rw [List.length_map, List.length_range]
      have tkB := tk_lst (o := .lst (us ++ [V.ref q])) husA
      refine ⟨L, us, _, rfl, rfl, husA, small_line (by omega), us ++ [V.ref q], _, _, rfl, same_write (e34.trans e4A) hL, upd_same, ?_⟩
      rw [rounds_succ, edd]
      exact pair_app (wks_tk (wks_tk hPu4 (tk_of e4A)) tkB) (.cons ⟨q, rfl, hq.tk tkB⟩ .nil)
    · rintro σ H2 ⟨us, v3, v4, rfl, e3, hus, hPu⟩
      rw [hvl] at hPu
      exact ⟨_, rfl, k H2 L us _ (e1.trans e3) hus hW hPu⟩
end
end K19

set_option Elab.async false
set_option linter.all false
set_option maxRecDepth 100000
set_option maxHeartbeats 4000000
/-! The program: signs that fit, signs told. -/
namespace K19
open PySem L2

/-- what a search tells of the rooms' signs -/
def Told (ds : List Dr) (R : Nat) (ns : List Int) : Prop := ns.length = R ∧ ∀ r : Nat, r < R → ∃ ps, Path ds 0 (r : Int) ps ∧ ns.getD r 0 = psgn ds ps
def spTold (C : Addr) : Sp := fun vs H Q _ => ∃ (h : Addr) (R : Nat) (ds : List Dr), vs = [.ref h] ∧ IsHouse C H h R ds ∧ House R ds ∧
  ∀ (H' : Hp) (ns : List Int) (v : V), Same H H' → Told ds R ns → ((Right R ds (ns.map V.int) ∧ ∃ q, v = .ref q ∧ H' q = some (.tup (ns.map V.int))) ∨ (¬ Right R ds (ns.map V.int) ∧ v = .non)) → Q v H'

section
variable {P : Program} {w : World} {K : PySem.W.Frag} {mg : Str → Option Value} {base : Heap} {f C CB : Addr} {fd : FuncData}
theorem ok_signs_right (F : Fun K "signs_right" "signs_right" s_p_signs_right f fd) (B : Blt mg) (T : HTxt K mg C) (DN : DefAt P w K mg base CX0 1 "is_number" a_p_is_number spWhole) : FnOk P w K mg base CX0 2 f fd a_p_signs_right (spRightS K C) := by
  refine F.ok sc_p_signs_right (fun vs H Q E h => ?_) (fun cdv A outer s H vs Q E hr h => ?_)
  · obtain ⟨h, v, R, ds, rfl, _⟩ := h
    rfl
  · obtain ⟨h, v, R, ds, rfl, hI, hH, hv⟩ := h
    have hu := hu_of hr
    refine ⟨_, pss_cons (ps_if (PW.pt (pw_or (pt_not (pt_val (pe_callB call_isi (by rfl) B.isinstance (by decide +kernel) (pa_cons (pv 1) (pa_cons (pe_bltn (v := .ty "tuple") (by rfl) B.tuple (by decide +kernel) rfl) pa_nil)))))
          (pw_or1 (pt_cmpR op_ne (pe_callB call_len_seq (by rfl) B.len PySem.boot_len (pa_cons (pv 1) pa_nil)) (pe_fld (pv 0) rfl) (nomark _))))) (pss_one (ps_ret pe_bl)) pss_nil)
      (pss_cons (ps_if (pt_not (pt_val (pe_callB (cr_all rfl) (by rfl) B.all (by decide +kernel) (pa_cons
        (pe_lc (own := [("item", 2)]) (g := gName 2) (tt := tYes) rfl sc_p_signs_right.nd (pi_tup (pv 1)) (blkOk_by (N := n_p_signs_right) (sc := defScope s_p_signs_right) (by decide +kernel)) (fun _ _ _ _ _ => pg_name (i := 2) sc_p_signs_right.nd rfl (Or.inl rfl)) (fun _ _ _ _ _ => pts_nil)
          (fun _ _ _ _ _ => by exact (pe_and (pe_def DN hr rfl (pa_cons (pv 2) pa_nil)) (pe_one (pe_cmpR (inS K) (pv 2) (pe_tup (pa_cons pe_int (pa_cons (pe_un un_neg pe_int) pa_nil))) (by rfl)))))) pa_nil)))) (pss_one (ps_ret pe_bl)) pss_nil)
      (pss_one (ps_ret (pe_callB (cr_all rfl) (by rfl) B.all (by decide +kernel) (pa_cons
        (pe_lc (own := [("near", 3), ("first", 4), ("far", 5), ("second", 6)]) (tt := tYes) rfl sc_p_signs_right.nd (pi_tup (pe_fld (pv 0) rfl)) (blkOk_by (N := n_p_signs_right) (sc := defScope s_p_signs_right) (by decide +kernel))
          (fun _ _ _ _ _ => by exact (pgT K (n := 4) (pg_tup rfl (pgs_cons (pg_name (i := 3) sc_p_signs_right.nd rfl (Or.inl rfl)) (pgs_cons (pg_name (i := 4) sc_p_signs_right.nd rfl (Or.inl rfl)) (pgs_cons (pg_name (i := 5) sc_p_signs_right.nd rfl (Or.inl rfl)) (pgs_cons (pg_name (i := 6) sc_p_signs_right.nd rfl (Or.inl rfl)) pgs_nil))))))) (fun _ _ _ _ _ => pts_nil)
          (fun _ _ _ _ _ => by exact (pe_cmpR op_gt (pe_op op_mul (pe_op op_mul (pe_op op_mul (pv 4) (pv 6)) (pe_ix (ixT K) (pv 1) (pv 3) (fun _ _ => rfl))) (pe_ix (ixT K) (pv 1) (pv 5) (fun _ _ => rfl))) pe_int (nomark _)))) pa_nil))))), ?_⟩
    obtain ⟨dx, D, hh, vs, hD, hP⟩ := id hI
    have hvl : vs.length = ds.length := hP.length
    have hlen := hH.len
    rcases hv with ⟨⟨t, ht, hk⟩, k⟩ | ⟨a, xs, rfl, ha, hib, hxl, k⟩
    · exact ⟨_, rfl, _, _, _, _, _, rfl, .ty _, ht, hk, _, rfl, iteT k⟩
    refine ⟨_, rfl, _, _, _, _, _, rfl, .ty _, .base (.tup ha), kit_tt, _, rfl, iteF ⟨_, rfl, a, _, rfl, .inr (SqT.of ha), _, rfl, h, C, dx, _, _, rfl, hh, T.cl, T.nR, lk_rooms, rfl, _, rfl, ?_⟩⟩
    refine ite2 (fun c => ?_) (fun c => ?_)
    · refine k H false (Same.refl H) ⟨fun z => Bool.noConfusion z, fun z => ?_⟩
      exfalso
      obtain ⟨ns, e, hl, _⟩ := z
      rw [e, List.length_map, hl] at c
      simp at c
    have hxR : xs.length = R := by
      have c2 : ¬ (V.int (xs.length : Int) ≠ V.int (R : Int)) := fun z => c (by simpa using z)
      have c3 : V.int (xs.length : Int) = V.int (R : Int) := Classical.not_not.mp c2
      have := V.int.inj c3
      omega
    refine ⟨_, rfl, a, rfl, ⟨_, SqT.of ha⟩, fun L hL => lc_tup (K := K) (a := a) (xs := xs) (fun i H' => Same H H' ∧ H' L = some (.lst (((xs.take i).map sgV).map V.bl))) ⟨same_upd hL, upd_same⟩ (fun i H' _ ⟨e, _⟩ => SqT.of (e _ _ ha)) ?_ ?_⟩
    · rintro i x H2 hx ⟨e2, hl⟩
      have hi : i < xs.length := (List.getElem?_eq_some_iff.mp hx).1
      have hll : (((xs.take i).map sgV).map V.bl).length < sizeLine := small_line (by rw [List.length_map, List.length_map, List.length_take]; omega)
      have emore : ∀ b : Bool, b = sgV x → ((xs.take i).map sgV).map V.bl ++ [V.bl b] = ((xs.take (i + 1)).map sgV).map V.bl := fun b hb => by
        rw [take_more hx, List.map_append, List.map_append, hb]
        rfl
      rcases hib x (List.mem_of_getElem? hx) with ⟨z, rfl⟩ | ⟨z, rfl⟩
      · refine ⟨rfl, _, rfl, .inl ⟨_, rfl, _, rfl, iteT ⟨_, rfl, _, rfl, (by decide : 2 ≤ sizeLine), fun t ht => ?_⟩⟩⟩
        have e3 := same_upd (o := .tup [V.int 1, V.int (-1)]) ht
        have g3 : (upd H2 t (.tup [V.int 1, V.int (-1)])) t = some (.tup [V.int 1, V.int (-1)]) := upd_same
        refine ⟨t, _, rfl, .inr (SqT.of g3), rfl, rfl, _, e3 _ _ hl, hll, same_write (e2.trans e3) hL, ?_⟩
        rw [upd_same]
        exact congrArg (fun q => some (HO.lst q)) (emore _ inV_sg)
      · refine ⟨rfl, _, rfl, .inr ⟨_, rfl, _, rfl, iteF ⟨_, hl, hll, same_write e2 hL, ?_⟩⟩⟩
        rw [upd_same]
        exact congrArg (fun q => some (HO.lst q)) (emore _ rfl)
    · rintro H2 ⟨e2, hl⟩
      rw [List.take_length] at hl
      refine ⟨L, xs.map sgV, rfl, SqL.of hl, _, rfl, ?_⟩
      have eall : (xs.map sgV).all id = xs.all sgV := by rw [List.all_map]; rfl
      rw [eall]
      cases hsg : xs.all sgV with
      | false =>
        refine iteT (k H2 false e2 ⟨fun z => Bool.noConfusion z, fun z => ?_⟩)
        exfalso
        obtain ⟨ns, e, _, hn, _⟩ := z
        rw [e, sgs_all hn] at hsg
        cases hsg
      | true =>
        refine iteF ?_
        obtain ⟨ns, rfl, hn⟩ := sgs_ints hsg
        rw [List.length_map] at hxR
        have hh2 := e2 _ _ hh
        have hD2 := e2 _ _ hD
        refine ⟨_, rfl, h, C, dx, _, _, rfl, hh2, T.cl, T.nD, lk_doors, D, rfl, ⟨_, SqT.of hD2⟩, fun L2 hL2 => lc_tup (K := K) (a := D) (xs := vs) (fun i H' => Same H2 H' ∧ H' L2 = some (.lst (((ds.take i).map fun d => decide (0 < d.f * d.s * ns.getD d.n.toNat 0 * ns.getD d.r.toNat 0)).map V.bl))) ⟨same_upd hL2, upd_same⟩ (fun i H' _ ⟨e, _⟩ => SqT.of (e _ _ hD2)) ?_ ?_⟩
        · rintro i x H3 hx ⟨e3, hl3⟩
          obtain ⟨d, hd, a1, rfl, ha1⟩ := pair_at' hP hx
          have hi := (List.getElem?_eq_some_iff.mp hd).1
          obtain ⟨d1, d2, d3, d4, d5, d6, d7, d8, d9, d10⟩ := hH.ok d (List.mem_of_getElem? hd)
          have hp1 := getD_pm hn (i := d.n.toNat) (by omega)
          have hp2 := getD_pm hn (i := d.r.toNat) (by omega)
          have e23 := e2.trans e3
          refine ⟨a1, _, rfl, SqT.of (e23 _ _ ha1), rfl, ⟨_, _, rfl, _, _, rfl, _, _, rfl, _, _, rfl, rfl, rfl, ?_⟩⟩
          refine ⟨_, rfl, _, rfl, _, _, rfl, rfl, .inr ⟨by omega, by omega⟩, _, rfl, _, rfl, a, _, _, _, rfl, rfl, SqT.of (e23 _ _ ha), atI_map d1 (by omega), _, _, rfl, rfl, .inr ?_, _, rfl, _, rfl, a, _, _, _, rfl, rfl, SqT.of (e23 _ _ ha), atI_map d3 (by omega), _, _, rfl, rfl, .inr ?_, _, _, rfl, rfl, _, hl3, ?_, same_write e3 hL2, ?_⟩
          · rcases hp1 with q | q <;> rw [q] <;> exact ⟨by decide, by decide⟩
          · rcases hp2 with q | q <;> rw [q] <;> exact ⟨by decide, by decide⟩
          · exact small_line (by rw [List.length_map, List.length_map, List.length_take]; omega)
          · rw [upd_same, take_more hd, List.map_append, List.map_append]
            rfl
        · rintro H3 ⟨e3, hl3⟩
          rw [hvl, List.take_length] at hl3
          refine ⟨L2, _, rfl, SqL.of hl3, k H3 _ (e2.trans e3) ⟨fun z => ⟨ns, rfl, hxR, hn, fun d hd => ?_⟩, fun z => ?_⟩⟩
          · rw [List.all_map, List.all_eq_true] at z
            exact of_decide_eq_true (z d hd)
          · obtain ⟨ns', en, _, _, hd⟩ := z
            have : ns = ns' := by
              have inj : ∀ {l m : List Int}, l.map V.int = m.map V.int → l = m := fun {l} => by
                induction l with
                | nil => intro m h; cases m with
                  | nil => rfl
                  | cons a m => cases h
                | cons a l ih => intro m h; cases m with
                  | nil => cases h
                  | cons b m =>
                    injection h with h1 h2
                    rw [V.int.inj h1, ih h2]
              exact inj en
            subst this
            rw [List.all_map, List.all_eq_true]
            exact fun d hd' => decide_eq_true (hd d hd')
theorem ok_told (F : Fun K "told_signs" "told_signs" s_p_told_signs f fd) (B : Blt mg) (T : HTxt K mg C) (DW : DefAt P w K mg base CX0 2 "ways_out" a_p_ways_out (spWaysOut C)) (DR : DefAt P w K mg base CX0 3 "ratio_over" a_p_ratio_over (spRatioOver C)) (DS : DefAt P w K mg base CX0 2 "signs_right" a_p_signs_right (spRightS K C)) : FnOk P w K mg base CX0 4 f fd a_p_told_signs (spTold C) := by
  refine F.ok sc_p_told_signs (fun vs H Q E h => ?_) (fun cdv A outer s H vs Q E hr h => ?_)
  · obtain ⟨h, R, ds, rfl, _⟩ := h
    rfl
  · obtain ⟨h, R, ds, rfl, hI, hH, k⟩ := h
    have hu := hu_of hr
    have hr2 : Room 2 _ := hr.mono (by decide)
    refine ⟨_, pss_cons (ps_set (i := 1) sc_p_told_signs.nd rfl (Or.inr rfl) (pe_def DW hr2 rfl (pa_cons (pv 0) pa_nil)))
      (pss_cons (ps_set (i := 2) sc_p_told_signs.nd rfl (Or.inl rfl) (pe_callTy call_tuple_of (by rfl) B.tuple (by decide +kernel) (pa_cons
        (pe_lc (own := [("room", 3)]) (g := gName 3) (tt := tYes) rfl sc_p_told_signs.nd (pi_range1 rfl B.range (pa_cons (pe_fld (pv 0) rfl) pa_nil)) (blkOk_by (N := n_p_told_signs) (sc := defScope s_p_told_signs) (by decide +kernel)) (fun _ _ _ _ _ => pg_name (i := 3) sc_p_told_signs.nd rfl (Or.inl rfl)) (fun _ _ _ _ _ => pts_nil)
          (fun _ _ _ _ _ => by exact (pe_ifExp (pt_cmpR op_gt (pe_ix (ixT K) (pe_def DR hr rfl (pa_cons (pv 0) (pa_cons (pe_dget hu (pv 1) (pv 3) (fun _ _ => rfl)) pa_nil))) pe_int (fun _ _ => rfl)) pe_int (nomark _)) pe_int (pe_un un_neg pe_int)))) pa_nil)))
      (pss_one (ps_ret (pe_ifExp (pt_val (pe_def DS hr2 rfl (pa_cons (pv 0) (pa_cons (pv 2) pa_nil)))) (pv 2) pe_non)))), ?_⟩
    obtain ⟨dx, D, hh, vs, hD, hP⟩ := id hI
    have hlen := hH.len
    have hR7 := hH.r7
    refine ⟨_, rfl, h, R, ds, rfl, hI, hH, fun H1 kd kvs es e1 hkd hkr hF hs => ?_⟩
    have hW := hF.ways hH.r7 hs
    have hh1 := e1 _ _ hh
    refine ⟨_, rfl, h, C, dx, _, _, rfl, hh1, T.cl, T.nR, lk_rooms, _, rfl, by omega, by omega, fun L hL => ?_⟩
    have en : (R : Int).toNat = R := by omega
    rw [en]
    refine lc_range (lo := 0) (n := R) (fun i H' => Same H1 H' ∧ H' L = some (.lst (((List.range i).map fun r : Nat => psgn ds (wayOf es (r : Int))).map V.int))) ⟨same_upd hL, upd_same⟩ ?_ ?_
    · rintro i H2 hi ⟨e2, hl⟩
      have z0 : (0 : Int) + (i : Int) = (i : Int) := Int.zero_add _
      rw [z0]
      obtain ⟨v, hv, q, rfl, hq⟩ := krel_way (krel_mono hkr fun _ _ z => z.tk (tk_of e2)) (hs (i : Int) (by omega) (by omega))
      obtain ⟨hp, hpl⟩ := hW (i : Int) (by omega) (by omega)
      refine ⟨rfl, _, rfl, _, rfl, _, rfl, kd, _, rfl, by rw [← hv]; exact DGet.k (k := Sum.inl (i : Int)) (e2 _ _ hkd), ?_⟩
      refine ⟨h, q, R, ds, _, rfl, hI.tk (tk_of (e1.trans e2)), hq, hH.ok, path_ok hp, fun H3 t3 tt bb e3 ht3 htn hsg => ?_⟩
      refine ⟨t3, _, _, _, rfl, rfl, SqT.of ht3, rfl, _, _, rfl, rfl, _, rfl, ?_⟩
      have hll : (((List.range i).map fun r : Nat => psgn ds (wayOf es (r : Int))).map V.int).length < sizeLine := small_line (by rw [List.length_map, List.length_map, List.length_range]; omega)
      have emore : ∀ z : Int, z = psgn ds (wayOf es (i : Int)) → ((List.range i).map fun r : Nat => psgn ds (wayOf es (r : Int))).map V.int ++ [V.int z] = ((List.range (i + 1)).map fun r : Nat => psgn ds (wayOf es (r : Int))).map V.int := fun z hz => by
        rw [List.range_succ, List.map_append, List.map_append, hz]
        rfl
      refine ite2 (fun c => ?_) (fun c => ?_)
      · have c2 : 0 < tt := by simpa using c
        refine ⟨_, e3 _ _ hl, hll, same_write (e2.trans e3) hL, ?_⟩
        rw [upd_same]
        exact congrArg (fun q => some (HO.lst q)) (emore 1 (by rw [← hsg]; exact (Int.sign_eq_one_iff_pos.mpr c2).symm))
      · have c2 : tt < 0 := by
          have : ¬ 0 < tt := fun z => c (by simpa using z)
          omega
        refine ⟨_, rfl, _, e3 _ _ hl, hll, same_write (e2.trans e3) hL, ?_⟩
        rw [upd_same]
        exact congrArg (fun q => some (HO.lst q)) (emore (-1) (by rw [← hsg]; exact (Int.sign_eq_neg_one_iff_neg.mpr c2).symm))
    · rintro H2 ⟨e2, hl⟩
      refine ⟨L, _, rfl, .inl ⟨SqL.of hl, fun q hq => ?_⟩⟩
      have e3 := same_upd (o := .tup (((List.range R).map fun r : Nat => psgn ds (wayOf es (r : Int))).map V.int)) hq
      have g3 : (upd H2 q (.tup (((List.range R).map fun r : Nat => psgn ds (wayOf es (r : Int))).map V.int))) q = some (.tup (((List.range R).map fun r : Nat => psgn ds (wayOf es (r : Int))).map V.int)) := upd_same
      have e13 := (e1.trans e2).trans e3
      generalize upd H2 q (.tup (((List.range R).map fun r : Nat => psgn ds (wayOf es (r : Int))).map V.int)) = H3 at e3 g3 e13 ⊢
      have hT : Told ds R ((List.range R).map fun r : Nat => psgn ds (wayOf es (r : Int))) := ⟨by rw [List.length_map, List.length_range], fun r hr => ⟨wayOf es r, (hW r (by omega) (by omega)).1, by
        rw [List.getD_eq_getElem?_getD, List.getElem?_map, List.getElem?_range hr]
        rfl⟩⟩
      refine ⟨_, rfl, _, rfl, h, .ref q, R, ds, rfl, hI.tk (tk_of e13), hH, .inr ⟨q, _, rfl, g3, fun x hx => ?_, by rw [List.length_map, List.length_map, List.length_range]; omega, fun H4 b e4 hb => ?_⟩⟩
      · obtain ⟨n, _, rfl⟩ := List.mem_map.mp hx
        exact .inl ⟨n, rfl⟩
      · refine ⟨_, rfl, ?_⟩
        cases b with
        | true => exact iteT ⟨_, rfl, k H4 _ _ (e13.trans e4) hT (.inl ⟨hb.mp rfl, q, rfl, e4 _ _ g3⟩)⟩
        | false => exact iteF (k H4 _ _ (e13.trans e4) hT (.inr ⟨fun z => Bool.noConfusion (hb.mpr z), rfl⟩))
end
end K19

set_option Elab.async false
set_option linter.all false
set_option maxRecDepth 100000
set_option maxHeartbeats 4000000
/-! The plain law: signs, rounds. -/
namespace K19
open PySem L2

theorem flip_step {ds : List Dr} {p : Stp} (hp : okStp ds p) : okStp ds (p.1, 1 - p.2) ∧ gate ds (p.1, 1 - p.2) = (gate ds p).flip := by
  obtain ⟨h0, h1, h2 | h2⟩ := hp
  · refine ⟨⟨h0, h1, .inr (by show 1 - p.2 = 1; omega)⟩, ?_⟩
    unfold gate
    rw [if_pos h2, if_neg (by show ¬ 1 - p.2 = 0; omega)]
  · refine ⟨⟨h0, h1, .inl (by show 1 - p.2 = 0; omega)⟩, ?_⟩
    unfold gate
    rw [if_pos (show (p.1, 1 - p.2).2 = 0 by show 1 - p.2 = 0; omega), if_neg (show ¬ p.2 = 0 by omega)]
    rfl
theorem turnBack_cons {p : Stp} {ps : List Stp} : turnBack (p :: ps) = turnBack ps ++ [(p.1, 1 - p.2)] := by
  unfold turnBack
  rw [List.reverse_cons, List.map_append]
  rfl
theorem turn_path {ds : List Dr} {b : Int} : ∀ {ps : List Stp} {a : Int}, Path ds a b ps → Path ds b a (turnBack ps)
  | [], a, h => (show a = b from h).symm
  | p :: ps, a, ⟨h1, h2, h3⟩ => by
    obtain ⟨k1, k2⟩ := flip_step h1
    rw [turnBack_cons]
    have e1 : (gate ds (p.1, 1 - p.2)).n = (gate ds p).r := by rw [k2]; rfl
    have e2 : (gate ds (p.1, 1 - p.2)).r = a := by rw [k2]; exact h2
    have z := path_snoc k1 (ps := turnBack ps) (a := b) (by rw [e1]; exact turn_path h3)
    rw [e2] at z
    exact z
theorem turn_psgn {ds : List Dr} {b : Int} : ∀ {ps : List Stp} {a : Int}, Path ds a b ps → psgn ds (turnBack ps) = psgn ds ps
  | [], a, h => rfl
  | p :: ps, a, ⟨h1, h2, h3⟩ => by
    obtain ⟨k1, k2⟩ := flip_step h1
    rw [turnBack_cons, psgn_snoc, turn_psgn h3, k2]
    show psgn ds ps * ((gate ds p).s.sign * (gate ds p).f.sign) = ((gate ds p).f.sign * (gate ds p).s.sign) * psgn ds ps
    rw [Int.mul_comm, Int.mul_comm (gate ds p).s.sign]
theorem gate0 {ds : List Dr} {i : Nat} : gate ds ((i : Int), 0) = ds.getD i ⟨0, 0, 0, 0⟩ := by
  unfold gate
  rw [if_pos rfl]
  show ds.getD (i : Int).toNat _ = _
  rw [Int.toNat_natCast]
/-- each round: a closed path, its sign -/
theorem rnd_ok {ds : List Dr} {R : Nat} {W : Int → List Stp} (hH : House R ds) (hW : Ways ds R W) {i : Nat} (hi : i < ds.length) :
    Path ds 0 0 (rnd W i (ds.getD i ⟨0, 0, 0, 0⟩)) ∧ (rnd W i (ds.getD i ⟨0, 0, 0, 0⟩)).length ≤ 20 ∧
      psgn ds (rnd W i (ds.getD i ⟨0, 0, 0, 0⟩)) = psgn ds (W (ds.getD i ⟨0, 0, 0, 0⟩).n) * ((ds.getD i ⟨0, 0, 0, 0⟩).f.sign * (ds.getD i ⟨0, 0, 0, 0⟩).s.sign) * psgn ds (W (ds.getD i ⟨0, 0, 0, 0⟩).r) := by
  have hd := hH.ok _ (getD_mem (d := ⟨0, 0, 0, 0⟩) hi)
  have hst : okStp ds ((i : Int), 0) := ⟨by omega, by show (i : Int) < _; omega, .inl rfl⟩
  have g0 : gate ds ((i : Int), 0) = ds.getD i ⟨0, 0, 0, 0⟩ := gate0
  generalize ds.getD i ⟨0, 0, 0, 0⟩ = d at hd g0 ⊢
  obtain ⟨p1, l1⟩ := hW d.n hd.1 hd.2.1
  obtain ⟨p2, l2⟩ := hW d.r hd.2.2.1 hd.2.2.2.1
  refine ⟨?_, ?_, ?_⟩
  · have z := path_snoc hst (ps := W d.n) (a := 0) (by rw [g0]; exact p1)
    rw [g0] at z
    exact path_app (turn_path p2) z
  · unfold rnd
    rw [List.length_append, List.length_append, List.length_singleton, turnBack_len]
    omega
  · unfold rnd
    rw [psgn_app, psgn_snoc, turn_psgn p2, g0]
theorem mem_rounds {ds : List Dr} {W : Int → List Stp} {ps : List Stp} (h : ps ∈ rounds W ds ds.length) : ∃ i, i < ds.length ∧ ps = rnd W i (ds.getD i ⟨0, 0, 0, 0⟩) := by
  obtain ⟨i, hi, e⟩ := List.mem_map.mp h
  exact ⟨i, List.mem_range.mp hi, e.symm⟩
/-- no round turns: signs fit -/
theorem fit_of_rounds {ds : List Dr} {R : Nat} {W : Int → List Stp} (hH : House R ds) (hW : Ways ds R W) (h : ∀ ps ∈ rounds W ds ds.length, psgn ds ps = 1) : ∃ ε, Sgn R ε ∧ Fit ds ε := by
  have pm : ∀ r : Int, 0 ≤ r → r < R → psgn ds (W r) = 1 ∨ psgn ds (W r) = -1 := fun r r0 r1 => psgn_pm hH.ok (path_ok (hW r r0 r1).1)
  refine ⟨fun r => psgn ds (W r), pm, fun d hd => ?_⟩
  obtain ⟨i, hi, e⟩ := List.mem_iff_getElem.mp hd
  have eD : ds.getD i ⟨0, 0, 0, 0⟩ = d := by
    rw [List.getD_eq_getElem?_getD, List.getElem?_eq_getElem hi, e]
    rfl
  have z := h (rnd W i (ds.getD i ⟨0, 0, 0, 0⟩)) (List.mem_map.mpr ⟨i, List.mem_range.mpr hi, rfl⟩)
  rw [(rnd_ok hH hW hi).2.2, eD] at z
  obtain ⟨d1, d2, d3, d4, d5, d6, _⟩ := hH.ok d hd
  show d.f.sign * psgn ds (W d.n) = d.s.sign * psgn ds (W d.r)
  rcases sign_pm d5 with q1 | q1 <;> rcases sign_pm d6 with q2 | q2 <;> rcases pm d.n d1 d2 with q3 | q3 <;> rcases pm d.r d3 d4 with q4 | q4 <;> rw [q1, q2, q3, q4] at z <;> rw [q1, q2, q3, q4] <;> omega
/-- a closed path, where signs fit, doesn't turn -/
theorem closed_one {ds : List Dr} {R : Nat} {ε : Int → Int} (hH : House R ds) (hs : Sgn R ε) (hf : Fit ds ε) {a : Int} {ps : List Stp} (a0 : 0 ≤ a) (a1 : a < R) (h : Path ds a a ps) : psgn ds ps = 1 := by
  have z := fit_path hH.ok hf hs a0 a1 h
  rcases hs a a0 a1 with q | q <;> rw [q] at z <;> omega
theorem Told.pm {ds : List Dr} {R : Nat} {ns : List Int} (hH : House R ds) (h : Told ds R ns) : ∀ n ∈ ns, n = 1 ∨ n = -1 := fun n hn => by
  obtain ⟨i, hi, e⟩ := List.mem_iff_getElem.mp hn
  obtain ⟨ps, hp, q⟩ := h.2 i (by rw [← h.1]; exact hi)
  rw [List.getD_eq_getElem?_getD, List.getElem?_eq_getElem hi, e] at q
  have q : n = psgn ds ps := q
  rw [q]
  exact psgn_pm hH.ok (path_ok hp)
theorem sign_mul4 {f s a b : Int} (ha : a = 1 ∨ a = -1) (hb : b = 1 ∨ b = -1) (f0 : f ≠ 0) (s0 : s ≠ 0) : 0 < f * s * a * b ↔ f.sign * a = s.sign * b := by
  rw [← Int.sign_eq_one_iff_pos, Int.sign_mul, Int.sign_mul, Int.sign_mul]
  rcases sign_pm f0 with q1 | q1 <;> rcases sign_pm s0 with q2 | q2 <;> rcases ha with q3 | q3 <;> rcases hb with q4 | q4 <;> rw [q1, q2, q3, q4] <;> decide
theorem right_fit {ds : List Dr} {R : Nat} {ns : List Int} (hH : House R ds) (h : Right R ds (ns.map V.int)) : ∃ ε, Sgn R ε ∧ Fit ds ε := by
  obtain ⟨ms, _, hl, hm, hd⟩ := h
  have pm : ∀ r : Int, 0 ≤ r → r < R → ms.getD r.toNat 0 = 1 ∨ ms.getD r.toNat 0 = -1 := fun r r0 r1 => getD_pm hm (by omega)
  refine ⟨fun r => ms.getD r.toNat 0, pm, fun d hdd => ?_⟩
  obtain ⟨d1, d2, d3, d4, d5, d6, _⟩ := hH.ok d hdd
  exact (sign_mul4 (pm d.n d1 d2) (pm d.r d3 d4) d5 d6).mp (hd d hdd)
theorem told_at {ds : List Dr} {R : Nat} {ns : List Int} {ε : Int → Int} (hH : House R ds) (h : Told ds R ns) (hs : Sgn R ε) (hf : Fit ds ε) {r : Nat} (hr : r < R) : ns.getD r 0 * ε 0 = ε (r : Int) := by
  obtain ⟨ps, hp, q⟩ := h.2 r hr
  rw [q]
  exact fit_path hH.ok hf hs (by decide) (by have := hH.r1; omega) hp
theorem fit_right {ds : List Dr} {R : Nat} {ns : List Int} {ε : Int → Int} (hH : House R ds) (h : Told ds R ns) (hs : Sgn R ε) (hf : Fit ds ε) : Right R ds (ns.map V.int) := by
  have hm := h.pm hH
  refine ⟨ns, rfl, h.1, hm, fun d hd => ?_⟩
  obtain ⟨d1, d2, d3, d4, d5, d6, _⟩ := hH.ok d hd
  have hl := h.1
  have p1 := getD_pm hm (i := d.n.toNat) (by omega)
  have p2 := getD_pm hm (i := d.r.toNat) (by omega)
  refine (sign_mul4 p1 p2 d5 d6).mpr ?_
  have a1 := told_at hH h hs hf (r := d.n.toNat) (by omega)
  have a2 := told_at hH h hs hf (r := d.r.toNat) (by omega)
  rw [show ((d.n.toNat : Nat) : Int) = d.n by omega] at a1
  rw [show ((d.r.toNat : Nat) : Int) = d.r by omega] at a2
  have f := hf d hd
  have e0 := hs 0 (by decide) (by have := hH.r1; omega)
  rw [← a1, ← a2] at f
  rcases e0 with q | q <;> rw [q] at f
  · rw [Int.mul_one, Int.mul_one] at f
    exact f
  · rw [← Int.mul_assoc, ← Int.mul_assoc] at f
    omega
theorem told_same {ds : List Dr} {R : Nat} {ns ms : List Int} {ε : Int → Int} (hH : House R ds) (h : Told ds R ns) (h' : Told ds R ms) (hs : Sgn R ε) (hf : Fit ds ε) : ns = ms := by
  refine List.ext_getElem? fun i => ?_
  by_cases c : i < R
  · have a1 := told_at hH h hs hf c
    have a2 := told_at hH h' hs hf c
    have e0 := hs 0 (by decide) (by have := hH.r1; omega)
    rw [getD_at (d := 0) (l := ns) (by rw [h.1]; exact c), getD_at (d := 0) (l := ms) (by rw [h'.1]; exact c)]
    refine congrArg some ?_
    rcases e0 with q | q <;> rw [q] at a1 a2 <;> omega
  · rw [List.getElem?_eq_none (by rw [h.1]; omega), List.getElem?_eq_none (by rw [h'.1]; omega)]
theorem told_right {ds : List Dr} {R : Nat} {ns ms : List Int} (hH : House R ds) (h : Told ds R ns) (h' : Told ds R ms) : Right R ds (ns.map V.int) → Right R ds (ms.map V.int) ∧ ns = ms := fun r => by
  obtain ⟨ε, hs, hf⟩ := right_fit hH r
  exact ⟨fit_right hH h' hs hf, told_same hH h h' hs hf⟩
end K19

set_option Elab.async false
set_option linter.all false
set_option maxRecDepth 100000
set_option maxHeartbeats 4000000
/-! The program's three answers. -/
namespace K19
open PySem L2

/-- walks as data -/
theorem dp_steps {K : PySem.W.Frag} {H : Hp} {S : Addr} {ps : List Stp} (h : IsStps H S ps) : ∃ d : List PyData, Dp K H (.ref S) (.tuple d) ∧ PyData.canLayAll0 d = true ∧ PyData.depthAll d ≤ 1 ∧ PyData.eqvAll d [] = ps.isEmpty := by
  obtain ⟨vs, h1, h2, h3⟩ := h.len
  obtain ⟨ds, d1, d2, d3, d4⟩ := dp_tis (K := K) (H := H) (xs := vs) fun x hx => by
    obtain ⟨i, hi, e⟩ := List.mem_iff_getElem.mp hx
    obtain ⟨st, _, hst⟩ := pair_at' h2 (show vs[i]? = some x by rw [List.getElem?_eq_getElem hi, e])
    exact hst.ti
  refine ⟨ds, .tup (SqT.of h1) d1, d2, d3, ?_⟩
  rw [d4]
  cases vs <;> cases ps <;> first | rfl | cases h3
theorem dp_wks {K : PySem.W.Frag} {H : Hp} : ∀ {xs : List V}, (∀ x ∈ xs, ∃ ps, IsWk H x ps) → ∃ ds : List PyData, DpAll K H xs ds ∧ PyData.canLayAll0 ds = true ∧ PyData.depthAll ds ≤ 3 ∧ PyData.eqvAll ds [] = xs.isEmpty
  | [], _ => ⟨[], .nil, rfl, Nat.zero_le _, rfl⟩
  | x :: xs, h => by
    obtain ⟨ds, h1, h2, h3, _⟩ := dp_wks (xs := xs) fun y hy => h y (List.mem_cons_of_mem _ hy)
    obtain ⟨ps, a, rfl, Z, S, ha, hZ, hS⟩ := h x List.mem_cons_self
    obtain ⟨d, s1, s2, s3, _⟩ := dp_steps (K := K) hS
    have eZ : List.replicate (ps.length + 1) (V.int 0) = (List.replicate (ps.length + 1) (0 : Int)).map V.int := by rw [List.map_replicate]
    rw [eZ] at hZ
    refine ⟨.tuple [.int 0, .tuple ((List.replicate (ps.length + 1) (0 : Int)).map PyData.int), .tuple d] :: ds, .cons (.tup (SqT.of ha) (.cons (.int 0) (.cons (.tup (SqT.of hZ) (dp_ints _)) (.cons s1 .nil)))) h1, ?_, ?_, rfl⟩
    · show ((true && ((PyData.canLayAll0 ((List.replicate (ps.length + 1) (0 : Int)).map PyData.int)) && (PyData.canLayAll0 d && true))) && PyData.canLayAll0 ds) = true
      rw [can_ints, s2, h2]
      rfl
    · show max (max 0 (max (PyData.depthAll ((List.replicate (ps.length + 1) (0 : Int)).map PyData.int) + 1) (max (PyData.depthAll d + 1) 0)) + 1) (PyData.depthAll ds) ≤ 3
      rw [depth_ints]
      omega

def spAre (K : PySem.W.Frag) (C CB : Addr) : Sp := fun vs H Q E => (∃ u v, vs = [u, v] ∧ NoHouse K C H u ∧ E (.ref CB) none H) ∨ spRightS K C vs H Q E
def spSignsOf (K : PySem.W.Frag) (C CB : Addr) : Sp := fun vs H Q E => (∃ u, vs = [u] ∧ NoHouse K C H u ∧ E (.ref CB) none H) ∨ spTold C vs H Q E
def spTurn (K : PySem.W.Frag) (C CB : Addr) : Sp := fun vs H Q E => (∃ u, vs = [u] ∧ NoHouse K C H u ∧ E (.ref CB) none H) ∨ ∃ (h : Addr) (R : Nat) (ds : List Dr), vs = [.ref h] ∧ IsHouse C H h R ds ∧ House R ds ∧
  ∀ (H' : Hp) (v : V), Same H H' → ((v = .non ∧ ∃ ε, Sgn R ε ∧ Fit ds ε) ∨ ∃ q ps, v = .ref q ∧ IsWalk H' q 0 ps ∧ Path ds 0 0 ps ∧ ps.length ≤ 20 ∧ psgn ds ps = -1) → Q v H'

section
variable {X : Cx} {W : WX} {k : Nat} {x : Str} {ps : List Str} {sp : Sp} {p pos : Pos} {e : Expr} {es : List Expr} {t : TA}
theorem pe_defX (tk : Takes X W) (D : DefAt X.prog X.w X.K X.mg X.base (L2.CX X.prog X.w) k x ps sp) (hr : Room k X.A) (hg : Gl X x) (ha : PA X (e :: es) t) (hdb : (x == ("__debug__" : Str)) = false := by decide)
    (he : starEach (e :: es) X.env = (false, eval e X.env) :: starEach es X.env := by rfl) (hpl : (backTo pos (starEach es X.env)).any (·.1) = false := by rfl) : PE X (.Call (.Name x p) (e :: es) [] pos) (tCallS sp (WE W) t) := by
  obtain ⟨f, fd, g, kp, b, F⟩ := D
  exact pe_callS F hr hg g kp b (fun σ => passAt tk σ) ha hdb he hpl
end

section
variable {P : Program} {w : World} {K : PySem.W.Frag} {mg : Str → Option Value} {base : Heap} {f C CB : Addr} {fd : FuncData}
theorem ok_p_are_signs (F : Fun K "are_signs" "are_signs" s_p_are_signs f fd) (DN : DefAt P w K mg base (L2.CX P w) 1 "need_house" a_p_need_house (spNeed K C CB)) (DS : DefAt P w K mg base CX0 2 "signs_right" a_p_signs_right (spRightS K C)) : FnOk P w K mg base (L2.CX P w) 3 f fd a_p_are_signs (spAre K C CB) := by
  refine F.okX sc_p_are_signs (fun vs H Q E h => ?_) (fun cdv A outer s H vs Q E hr h => ?_)
  · rcases h with ⟨u, v, rfl, _⟩ | ⟨h, v, R, ds, rfl, _⟩ <;> rfl
  · have hr1 : Room 1 _ := hr.mono (by decide)
    have tD : ∀ {u v : V}, vs = [u, v] → True := fun _ => trivial
    obtain ⟨u, v, rfl⟩ : ∃ u v, vs = [u, v] := by rcases h with ⟨u, v, rfl, _⟩ | ⟨h, v, R, ds, rfl, _⟩ <;> exact ⟨_, _, rfl⟩
    refine ⟨_, pss_cons (ps_expr (pe_defX (takes_of rfl rfl rfl rfl) DN hr1 rfl (pa_cons (pv 0) pa_nil)))
      (pss_one (ps_ret (pe_def DS hr rfl (pa_cons (pv 0) (pa_cons (pv 1) pa_nil))))), ?_⟩
    rcases h with ⟨u', v', e, hn, k⟩ | h
    · cases e
      exact ⟨_, rfl, _, rfl, .inr ⟨hn, k⟩⟩
    · obtain ⟨h1, v1, R, ds, e, hI, hH, hv⟩ := h
      cases e
      exact ⟨_, rfl, _, rfl, .inl ⟨h1, R, ds, rfl, hI, _, rfl, _, rfl, h1, _, R, ds, rfl, hI, hH, hv⟩⟩
theorem ok_p_signs_of (F : Fun K "signs_of" "signs_of" s_p_signs_of f fd) (DN : DefAt P w K mg base (L2.CX P w) 1 "need_house" a_p_need_house (spNeed K C CB)) (DS : DefAt P w K mg base CX0 4 "told_signs" a_p_told_signs (spTold C)) : FnOk P w K mg base (L2.CX P w) 5 f fd a_p_signs_of (spSignsOf K C CB) := by
  refine F.okX sc_p_signs_of (fun vs H Q E h => ?_) (fun cdv A outer s H vs Q E hr h => ?_)
  · rcases h with ⟨u, rfl, _⟩ | ⟨h, R, ds, rfl, _⟩ <;> rfl
  · have hr1 : Room 1 _ := hr.mono (by decide)
    obtain ⟨u, rfl⟩ : ∃ u, vs = [u] := by rcases h with ⟨u, rfl, _⟩ | ⟨h, R, ds, rfl, _⟩ <;> exact ⟨_, rfl⟩
    refine ⟨_, pss_cons (ps_expr (pe_defX (takes_of rfl rfl rfl rfl) DN hr1 rfl (pa_cons (pv 0) pa_nil)))
      (pss_one (ps_ret (pe_def DS hr rfl (pa_cons (pv 0) pa_nil)))), ?_⟩
    rcases h with ⟨u', e, hn, k⟩ | h
    · cases e
      exact ⟨_, rfl, _, rfl, .inr ⟨hn, k⟩⟩
    · obtain ⟨h1, R, ds, e, hI, hH, hv⟩ := h
      cases e
      exact ⟨_, rfl, _, rfl, .inl ⟨h1, R, ds, rfl, hI, _, rfl, h1, R, ds, rfl, hI, hH, hv⟩⟩
theorem ok_p_turning (F : Fun K "turning_walk" "turning_walk" s_p_turning_walk f fd) (DN : DefAt P w K mg base (L2.CX P w) 1 "need_house" a_p_need_house (spNeed K C CB)) (DR : DefAt P w K mg base CX0 3 "rounds_of" a_p_rounds_of (spRounds C)) (DO : DefAt P w K mg base CX0 3 "ratio_over" a_p_ratio_over (spRatioOver C)) : FnOk P w K mg base (L2.CX P w) 4 f fd a_p_turning_walk (spTurn K C CB) := by
  refine F.okX sc_p_turning_walk (fun vs H Q E h => ?_) (fun cdv A outer s H vs Q E hr h => ?_)
  · rcases h with ⟨u, rfl, _⟩ | ⟨h, R, ds, rfl, _⟩ <;> rfl
  · have hr1 : Room 1 _ := hr.mono (by decide)
    obtain ⟨u, rfl⟩ : ∃ u, vs = [u] := by rcases h with ⟨u, rfl, _⟩ | ⟨h, R, ds, rfl, _⟩ <;> exact ⟨_, rfl⟩
    refine ⟨_, pss_cons (ps_expr (pe_defX (takes_of rfl rfl rfl rfl) DN hr1 rfl (pa_cons (pv 0) pa_nil)))
      (pss_cons (ps_setLc (i := 1) (own := [("walk", 2)]) (g := gName 2) rfl sc_p_turning_walk.nd rfl rfl (sw_true rfl rfl rfl (by decide +kernel)) (pi_list (pe_def DR hr rfl (pa_cons (pv 0) pa_nil))) (blkOk_by (N := n_p_turning_walk) (sc := defScope s_p_turning_walk) (by decide +kernel)) (fun _ _ _ _ _ => pg_name (i := 2) sc_p_turning_walk.nd rfl (Or.inl rfl))
          (fun _ _ _ _ _ => by exact (pts_one (pt_cmpR op_lt (pe_ix (ixT K) (pe_def DO hr rfl (pa_cons (pv 0) (pa_cons (pe_ix (ixT K) (pv 2) pe_int (fun _ _ => rfl)) pa_nil))) pe_int (fun _ _ => rfl)) pe_int (nomark _))))
          (fun _ _ _ _ _ => pv 2))
      (pss_one (ps_ret (pe_ifExp (pt_cmpR (op_neD hr.units) (pv 1) (pe_lst pa_nil) (nomark _)) (pe_ix ix_list (pv 1) pe_int (fun _ _ => rfl)) pe_non)))), ?_⟩
    rcases h with ⟨u', e, hn, k⟩ | h
    · cases e
      exact ⟨_, rfl, _, rfl, .inr ⟨hn, k⟩⟩
    · obtain ⟨h1, R, ds, e, hI, hH, k⟩ := h
      cases e
      refine ⟨_, rfl, _, rfl, .inl ⟨h1, R, ds, rfl, hI, ?_⟩⟩
      have hlen := hH.len
      refine ⟨_, rfl, h1, R, ds, rfl, hI, hH, fun H1 l vs W e1 hl hW hP => ?_⟩
      have hvl : vs.length = ds.length := by rw [hP.length]; unfold rounds; rw [List.length_map, List.length_range]
      refine ⟨l, rfl, ⟨_, SqL.of hl⟩, fun L hL => lc_list (K := K) (a := l) (xs := vs) (fun i H' => Same H1 H' ∧ ∃ us : List V, H' L = some (.lst us) ∧ us.length ≤ i ∧ (∀ u ∈ us, ∃ ps, IsWk H' u ps ∧ Path ds 0 0 ps ∧ ps.length ≤ 20 ∧ psgn ds ps = -1) ∧ (us = [] → ∀ ps ∈ (rounds W ds ds.length).take i, psgn ds ps = 1))
        ⟨same_upd hL, [], upd_same, Nat.le_refl _, fun u hu => by (cases hu), fun _ ps hps => by simp at hps⟩ (fun i H' _ ⟨e, _⟩ => SqL.of (e _ _ hl)) ?_ ?_⟩
      · rintro i x H2 hx ⟨e2, us, hus, hul, hu1, hu2⟩
        obtain ⟨ps, hps, a, rfl, ha⟩ := pair_at' hP hx
        have hi : i < vs.length := (List.getElem?_eq_some_iff.mp hx).1
        have eps : ps = rnd W i (ds.getD i ⟨0, 0, 0, 0⟩) := by
          unfold rounds at hps
          rw [List.getElem?_map, List.getElem?_range (by omega)] at hps
          exact (Option.some.inj hps).symm
        obtain ⟨r1, r2, r3⟩ := rnd_ok hH hW (i := i) (by omega)
        rw [← eps] at r1 r2 r3
        have ha2 := ha.tk (tk_of e2)
        obtain ⟨Z, S, b1, b2, b3⟩ := id ha2
        refine ⟨rfl, _, rfl, _, rfl, a, _, _, _, rfl, rfl, SqT.of b1, rfl, ?_⟩
        refine ⟨h1, S, R, ds, ps, rfl, hI.tk (tk_of (e1.trans e2)), b3, hH.ok, path_ok r1, fun H3 t3 tt bb e3 ht3 htn hsg => ?_⟩
        refine ⟨t3, _, _, _, rfl, rfl, SqT.of ht3, rfl, _, _, rfl, rfl, _, rfl, ?_⟩
        have hpm := psgn_pm hH.ok (path_ok r1)
        refine ite2 (fun c => ?_) (fun c => ?_)
        · have c2 : tt < 0 := by simpa using c
          have sg : psgn ds ps = -1 := by rw [← hsg]; exact Int.sign_eq_neg_one_iff_neg.mpr c2
          have hus3 := e3 _ _ hus
          have tkw := (tk_of e3).trans (tk_lst (o := .lst (us ++ [V.ref a])) hus3)
          refine ⟨_, rfl, us, hus3, small_line (by omega), same_write (e2.trans e3) hL, us ++ [V.ref a], upd_same, by rw [List.length_append, List.length_singleton]; omega, fun u hu => ?_, fun z => ?_⟩
          · rcases List.mem_append.mp hu with q | q
            · obtain ⟨ps', ⟨a', rfl, q1⟩, q2⟩ := hu1 u q
              exact ⟨ps', ⟨a', rfl, q1.tk tkw⟩, q2⟩
            · rw [List.mem_singleton.mp q]
              exact ⟨ps, ⟨a, rfl, ha2.tk tkw⟩, r1, r2, sg⟩
          · exact absurd z (by simp)
        · have c2 : ¬ tt < 0 := fun z => c (by simpa using z)
          have sg : psgn ds ps = 1 := by rw [← hsg]; exact Int.sign_eq_one_iff_pos.mpr (by omega)
          refine ⟨e2.trans e3, us, e3 _ _ hus, by omega, fun u hu => ?_, fun z ps' hps' => ?_⟩
          · obtain ⟨ps', ⟨a', rfl, q1⟩, q2⟩ := hu1 u hu
            exact ⟨ps', ⟨a', rfl, q1.tk (tk_of e3)⟩, q2⟩
          · rw [take_more hps] at hps'
            rcases List.mem_append.mp hps' with q | q
            · exact hu2 z ps' q
            · rw [List.mem_singleton.mp q]
              exact sg
      · rintro H2 ⟨e2, us, hus, hul, hu1, hu2⟩
        refine ⟨_, rfl, (by decide : 0 ≤ sizeLine), fun t5 ht5 => ?_⟩
        have e6 := same_upd (o := .lst []) ht5
        have g6 : (upd H2 t5 (.lst [])) t5 = some (.lst []) := upd_same
        generalize upd H2 t5 (.lst []) = H6 at e6 g6 ⊢
        have hus6 := e6 _ _ hus
        obtain ⟨dd, d1, d2, d3, d4⟩ := dp_wks (K := K) (H := H6) (xs := us) fun x hx => by
          obtain ⟨ps', ⟨a', e', q1⟩, q2⟩ := hu1 x hx
          exact ⟨ps', a', e', q1.tk (tk_of e6)⟩
        refine ⟨_, _, .lst (SqL.of hus6) d1, dp_nil g6, (shaped_of d2 (by omega)).1, rfl, _, rfl, ?_⟩
        show if (!PyData.eqvAll dd []) = true then _ else _
        rw [d4]
        cases us with
        | nil =>
          refine iteF (k H6 .non ((e1.trans e2).trans e6) (.inl ⟨rfl, fit_of_rounds hH hW fun ps hps => ?_⟩))
          refine hu2 rfl ps ?_
          rw [hvl, List.take_of_length_le (by unfold rounds; rw [List.length_map, List.length_range]; exact Nat.le_refl _)]
          exact hps
        | cons u us =>
          refine iteT ?_
          obtain ⟨ps', ⟨a', rfl, q1⟩, q2, q3, q4⟩ := hu1 u List.mem_cons_self
          exact ⟨_, rfl, L, _, _, _, rfl, rfl, SqL.of hus6, atI_of (by decide) (by rfl), k H6 _ ((e1.trans e2).trans e6) (.inr ⟨a', ps', rfl, q1.tk (tk_of e6), q2, q3, q4⟩)⟩
end
end K19

set_option Elab.async false
set_option linter.all false
set_option maxRecDepth 100000
set_option maxHeartbeats 4000000
/-! The law's doors: drawn, all rooms joined. -/
namespace K19
open PySem L2

/-- room r has a door to a lower one -/
def Down (d : Dr) (r : Int) : Prop := (d.n = r ∧ 0 ≤ d.r ∧ d.r < r) ∨ (d.r = r ∧ 0 ≤ d.n ∧ d.n < r)
def Tree (ds : List Dr) (m : Int) : Prop := ∀ r : Int, 1 ≤ r → r < m → ∃ d ∈ ds, Down d r
theorem Tree.conn {ds : List Dr} {R : Nat} (h : Tree ds R) : Conn ds R := fun S hS => by
  have z : ∀ n : Nat, ∀ r : Nat, r ≤ n → r < R → (S (r : Int) ↔ S 0) := fun n => by
    induction n with
    | zero =>
      intro r h0 _
      have e : r = 0 := by omega
      subst e
      exact Iff.rfl
    | succ n ih =>
      intro r h0 h1
      by_cases c : r = 0
      · subst c
        exact Iff.rfl
      · obtain ⟨d, hd, q | q⟩ := h (r : Int) (by omega) (by omega)
        · obtain ⟨q1, q2, q3⟩ := q
          have := ih d.r.toNat (by omega) (by omega)
          rw [show ((d.r.toNat : Nat) : Int) = d.r by omega] at this
          rw [← q1]
          exact (hS d hd).trans this
        · obtain ⟨q1, q2, q3⟩ := q
          have := ih d.n.toNat (by omega) (by omega)
          rw [show ((d.n.toNat : Nat) : Int) = d.n by omega] at this
          rw [← q1]
          exact (hS d hd).symm.trans this
  intro a b a0 a1 b0 b1 sa
  have h1 := z R a.toNat (by omega) (by omega)
  have h2 := z R b.toNat (by omega) (by omega)
  rw [show ((a.toNat : Nat) : Int) = a by omega] at h1
  rw [show ((b.toNat : Nat) : Int) = b by omega] at h2
  exact h2.mpr (h1.mp sa)
theorem Tree.perm {ds es : List Dr} {m : Int} (h : Tree ds m) (p : es.Perm ds) : Tree es m := fun r r0 r1 => by
  obtain ⟨d, hd, q⟩ := h r r0 r1
  exact ⟨d, p.mem_iff.mpr hd, q⟩
theorem pair_perm {α β : Type} {F : α → β → Prop} {l l' : List α} (p : l'.Perm l) : ∀ {m : List β}, Paired F l m → ∃ m', Paired F l' m' ∧ m'.Perm m := by
  induction p with
  | nil => exact fun h => ⟨_, h, List.Perm.refl _⟩
  | cons x _ ih =>
    intro m h
    cases h with
    | cons r t =>
      obtain ⟨m', h1, h2⟩ := ih t
      exact ⟨_, .cons r h1, h2.cons _⟩
  | swap x y l =>
    intro m h
    cases h with
    | cons r t =>
      cases t with
      | cons r' t => exact ⟨_, .cons r' (.cons r t), List.Perm.swap _ _ _⟩
  | trans _ _ ih1 ih2 =>
    intro m h
    obtain ⟨m1, h1, p1⟩ := ih2 h
    obtain ⟨m2, h2, p2⟩ := ih1 h1
    exact ⟨m2, h2, p2.trans p1⟩

/-- a list of doors that grows -/
structure DSt (d g c : Addr) (n : Nat) (L : Addr) (R : Nat) (H H' : Hp) (vs : List V) (ds : List Dr) : Prop where
  kp : Kp d g H H'
  st : StAt d g c n H'
  ls : H' L = some (.lst vs)
  pr : Paired (IsDoor H') vs ds
  ok : ∀ d ∈ ds, okDr R d
section
variable {d g c L : Addr} {n m : Nat} {R : Nat} {H H1 H2 : Hp} {vs : List V} {ds : List Dr}
theorem DSt.same (D : DSt d g c n L R H H1 vs ds) (e : Same H1 H2) : DSt d g c n L R H H2 vs ds := ⟨D.kp.trans (kp_of e), D.st.same e, e _ _ D.ls, doors_tk D.pr (tk_of e), D.ok⟩
theorem DSt.draw (D : DSt d g c n L R H H1 vs ds) (n1 : L ≠ d) (n2 : L ≠ g) (k : Kp d g H1 H2) (s : StAt d g c m H2) : DSt d g c m L R H H2 vs ds := ⟨D.kp.trans k, s, k _ _ n1 n2 D.ls, doors_tk D.pr (D.st.tk k), D.ok⟩
theorem DSt.push (D : DSt d g c n L R H H1 vs ds) (hL : H L = none) (n2 : L ≠ g) (n3 : L ≠ c) {t : Addr} {e : Dr} (ht : H1 t = some (.tup (doorV e))) (he : okDr R e) : DSt d g c n L R H (upd H1 L (.lst (vs ++ [V.ref t]))) (vs ++ [V.ref t]) (ds ++ [e]) := by
  have tk := tk_lst (o := .lst (vs ++ [V.ref t])) D.ls
  refine ⟨kp_write D.kp hL, D.st.other D.ls n2 n3, upd_same, pair_app (doors_tk D.pr tk) (.cons ⟨t, rfl, tk.1 _ _ ht⟩ .nil), fun d hd => ?_⟩
  rcases List.mem_append.mp hd with q | q
  · exact D.ok d q
  · rw [List.mem_singleton.mp q]
    exact he
theorem StAt.nec {p : Addr} (s : StAt d g c n H) (hp : H p = none) : p ≠ c := by
  obtain ⟨gs, cs, l, t, a, t0, t1, h1, h2, h3⟩ := s
  exact (ne_of_none h3 hp).symm
end
theorem Tree.snoc {ds : List Dr} {d : Dr} {m : Int} (h : Tree ds m) (hd : Down d m) : Tree (ds ++ [d]) (m + 1) := fun r r0 r1 => by
  by_cases c : r = m
  · subst c
    exact ⟨d, List.mem_append_right _ List.mem_cons_self, hd⟩
  · obtain ⟨d', hd', q⟩ := h r r0 (by omega)
    exact ⟨d', List.mem_append_left _ hd', q⟩
theorem Tree.more {ds es : List Dr} {m : Int} (h : Tree ds m) : Tree (ds ++ es) m := fun r r0 r1 => by
  obtain ⟨d', hd', q⟩ := h r r0 r1
  exact ⟨d', List.mem_append_left _ hd', q⟩
theorem Down.flip {d : Dr} {r : Int} (h : Down d r) : Down d.flip r := by
  rcases h with h | h
  · exact .inr h
  · exact .inl h
/-- each the same or turned -/
theorem Tree.flips {ds es : List Dr} {m : Int} (h : Tree ds m) (p : Paired (fun e d => e = d ∨ e = d.flip) es ds) : Tree es m := fun r r0 r1 => by
  obtain ⟨d, hd, q⟩ := h r r0 r1
  obtain ⟨i, hi, e⟩ := List.mem_iff_getElem.mp hd
  obtain ⟨d', hd', z⟩ := pair_at p (show ds[i]? = some d by rw [List.getElem?_eq_getElem hi, e])
  refine ⟨d', List.mem_of_getElem? hd', ?_⟩
  rcases z with z | z
  · rw [z]
    exact q
  · rw [z]
    exact q.flip
def spDoors : Sp := fun vs H Q _ => ∃ (d g c : Addr) (n R : Nat), vs = [.ref d, .int (R : Int), .int 5] ∧ StAt d g c n H ∧ n + 200 ≤ 1000000 ∧ 1 ≤ R ∧ R ≤ 7 ∧
  ∀ (H' : Hp) (q : Addr) (ds : List Dr), Kp d g H H' → StAt d g c (n + 200) H' → IsDoors H' q ds → House R ds → Q (.ref q) H'

section
variable {P : Program} {w : World} {K : PySem.W.Frag} {mg : Str → Option Value} {base : Heap} {f : Addr} {fd : FuncData}
theorem ok_doors (F : Fun K "_law_doors" "_law_doors" s_doors f fd) (B : Blt mg) (DD : DefAt P w K mg base CX0 2 "_law_draw" a_draw spDraw) (DZ : DefAt P w K mg base CX0 4 "_law_size" a_size spSize) (DM : DefAt P w K mg base CX0 3 "_law_mixed" a_mixed (spMixed K)) : FnOk P w K mg base CX0 5 f fd a_doors spDoors := by
  refine F.ok sc_doors (fun vs H Q E h => ?_) (fun cdv A outer s H vs Q E hr h => ?_)
  · obtain ⟨d, g, c, n, R, rfl, _⟩ := h
    rfl
  · obtain ⟨d, g, c, n, R, rfl, hS, hn, hR1, hR7, k⟩ := h
    have hr2 : Room 2 _ := hr.mono (by decide)
    have hr3 : Room 3 _ := hr.mono (by decide)
    refine ⟨_, pss_cons (ps_set (i := 3) sc_doors.nd rfl (Or.inl rfl) (pe_lst pa_nil))
      (pss_cons (ps_for PassesOwn.never rfl (pi_range2 rfl B.range (pa_cons pe_int (pa_cons (pv 1) pa_nil))) (pg_name (i := 4) sc_doors.nd rfl (Or.inl rfl))
        (pss_one (ps_expr (pe_bm PySem.F.plainAttrs_list PySem.F.slot_list_append PySem.F.type_list_append mt_append (pv 3) (pa_cons
          (pe_tup (pa_cons (pe_def DD hr2 rfl (pa_cons (pv 0) (pa_cons (pv 4) pa_nil))) (pa_cons (pe_def DZ hr rfl (pa_cons (pv 0) pa_nil)) (pa_cons (pv 4) (pa_cons (pe_def DZ hr rfl (pa_cons (pv 0) pa_nil)) pa_nil))))) pa_nil)))))
      (pss_cons (ps_for PassesOwn.never rfl (pi_range1 rfl B.range (pa_cons (pe_def DD hr2 rfl (pa_cons (pv 0) (pa_cons (pe_op op_add (pv 2) pe_int) pa_nil))) pa_nil)) (pg_name (i := 5) sc_doors.nd rfl (Or.inl rfl))
        (pss_cons (ps_par (i := 6) (j := 7) (by rfl) sc_doors.nd rfl rfl (by decide) rfl rfl (pa_cons (pe_def DD hr2 rfl (pa_cons (pv 0) (pa_cons (pv 1) pa_nil))) (pa_cons (pe_def DD hr2 rfl (pa_cons (pv 0) (pa_cons (pv 1) pa_nil))) pa_nil)) (by rfl))
        (pss_one (ps_expr (pe_bm PySem.F.plainAttrs_list PySem.F.slot_list_append PySem.F.type_list_append mt_append (pv 3) (pa_cons
          (pe_tup (pa_cons (pv 6) (pa_cons (pe_def DZ hr rfl (pa_cons (pv 0) pa_nil)) (pa_cons (pv 7) (pa_cons (pe_def DZ hr rfl (pa_cons (pv 0) pa_nil)) pa_nil))))) pa_nil))))))
      (pss_cons (ps_setLc (i := 3) (own := [("_law_item", 8)]) (g := gName 8) (tt := tYes) rfl sc_doors.nd rfl rfl (sw_true rfl rfl rfl (by decide +kernel)) (pi_list (pv 3)) (blkOk_by (N := n_doors) (sc := defScope s_doors) (by decide +kernel)) (fun _ _ _ _ _ => pg_name (i := 8) sc_doors.nd rfl (Or.inl rfl)) (fun _ _ _ _ _ => pts_nil)
          (fun _ _ _ _ _ => by exact (pe_ifExp (pt_cmpR op_eq (pe_def DD hr2 rfl (pa_cons (pv 0) (pa_cons pe_int pa_nil))) pe_int (nomark _)) (pv 8)
            (pe_tup (pa_cons (pe_ix (ixT K) (pv 8) pe_int (fun _ _ => rfl)) (pa_cons (pe_ix (ixT K) (pv 8) pe_int (fun _ _ => rfl)) (pa_cons (pe_ix (ixT K) (pv 8) pe_int (fun _ _ => rfl)) (pa_cons (pe_ix (ixT K) (pv 8) pe_int (fun _ _ => rfl)) pa_nil))))))))
      (pss_one (ps_ret (pe_callTy call_tuple_of (by rfl) B.tuple (by decide +kernel) (pa_cons (pe_def DM hr3 rfl (pa_cons (pv 0) (pa_cons (pv 3) pa_nil))) pa_nil))))))), ?_⟩
    refine ⟨(by decide : 0 ≤ sizeLine), fun L hL => ?_⟩
    have e1 := same_upd (o := .lst []) hL
    obtain ⟨Ld, Lg⟩ := hS.ned hL
    have Lc := hS.nec hL
    have D0 : DSt d g c n L R H (upd H L (.lst [])) [] [] := ⟨kp_of e1, hS.same e1, upd_same, .nil, fun d hd => by cases hd⟩
    generalize upd H L (.lst []) = H1 at D0 ⊢
    have szs : ∀ {v : V → Hp → Prop}, True := trivial
    refine ⟨_, rfl, 1, (R : Int), rfl, ⟨by decide, by decide, by omega, by omega⟩, for_range (lo := 1) (n := ((R : Int) - 1).toNat) (fun i σ H' => ∃ (vs : List V) (ds : List Dr) (v4 v5 v6 v7 v8 : Option V), σ = [some (.ref d), some (.int (R : Int)), some (.int 5), some (.ref L), v4, v5, v6, v7, v8] ∧ DSt d g c (n + 5 * i) L R H H' vs ds ∧ ds.length = i ∧ Tree ds (1 + i))
      ⟨[], [], none, none, none, none, none, rfl, D0, rfl, fun r r0 r1 => by omega⟩ ?_ ?_⟩
    · rintro i σ H2 hi ⟨vs, ds, v4, v5, v6, v7, v8, rfl, D2, hl, hT⟩
      refine ⟨_, rfl, .inl ⟨rfl, _, SqL.of D2.ls⟩, _, rfl, _, rfl, d, g, c, n + 5 * i, _, rfl, D2.st, by omega, by omega, by omega, fun H3 z K3 S3 z0 z1 => ?_⟩
      have D3 := D2.draw Ld Lg K3 S3
      refine ⟨_, rfl, d, g, c, _, rfl, S3, by omega, fun H4 f K4 S4 f0 f1 f2 => ?_⟩
      have D4 := D3.draw Ld Lg K4 S4
      refine ⟨_, rfl, _, rfl, d, g, c, _, rfl, S4, by omega, fun H5 s K5 S5 s0 s1 s2 => ?_⟩
      have D5 := D4.draw Ld Lg K5 S5
      refine ⟨(by decide : 4 ≤ sizeLine), fun t ht => ?_⟩
      have e6 := same_upd (o := .tup (doorV ⟨z, f, 1 + (i : Int), s⟩)) ht
      have g6 : (upd H5 t (.tup (doorV ⟨z, f, 1 + (i : Int), s⟩))) t = some (.tup (doorV ⟨z, f, 1 + (i : Int), s⟩)) := upd_same
      have D6 := D5.same e6
      have hvl : vs.length = ds.length := D2.pr.length
      have ho : okDr R ⟨z, f, 1 + (i : Int), s⟩ := ⟨z0, by show z < (R : Int); omega, by show 0 ≤ 1 + (i : Int); omega, by show 1 + (i : Int) < R; omega, f0, s0, by show -999 ≤ f; omega, by show f ≤ 999; omega, by show -999 ≤ s; omega, by show s ≤ 999; omega⟩
      refine ⟨L, vs, _, rfl, rfl, D6.ls, small_line (by omega), vs ++ [V.ref t], ds ++ [⟨z, f, 1 + (i : Int), s⟩], _, _, _, _, _, rfl, ?_, by rw [List.length_append, List.length_singleton, hl], ?_⟩
      · have D7 := D6.push hL Lg Lc g6 ho
        exact ⟨D7.kp, D7.st.le (by omega), D7.ls, D7.pr, D7.ok⟩
      · have hT2 := hT.snoc (d := ⟨z, f, 1 + (i : Int), s⟩) (.inr ⟨rfl, z0, z1⟩)
        rw [Int.add_assoc] at hT2
        exact hT2
    · rintro σ H2 ⟨vs, ds, v4, v5, v6, v7, v8, rfl, D2, hl, hT⟩
      have hT : Tree ds R := by rw [show (1 : Int) + (((R : Int) - 1).toNat : Nat) = (R : Int) by omega] at hT; exact hT
      have hvl2 : vs.length = ds.length := D2.pr.length
      refine ⟨_, rfl, _, rfl, _, _, rfl, rfl, d, g, c, _, _, rfl, D2.st, by omega, by decide, by decide, fun H3 z K3 S3 z0 z1 => ?_⟩
      have D3 := D2.draw Ld Lg K3 S3
      have z1 : z < 6 := z1
      refine ⟨_, rfl, by omega, by omega, for_range (lo := 0) (n := z.toNat) (fun i σ H' => ∃ (vs : List V) (ds : List Dr) (v4 v5 v6 v7 v8 : Option V), σ = [some (.ref d), some (.int (R : Int)), some (.int 5), some (.ref L), v4, v5, v6, v7, v8] ∧ DSt d g c (n + 35 + 10 * i) L R H H' vs ds ∧ ds.length ≤ 6 + i ∧ Tree ds R)
        ⟨vs, ds, _, _, _, _, _, rfl, ⟨D3.kp, D3.st.le (by omega), D3.ls, D3.pr, D3.ok⟩, by omega, hT⟩ ?_ ?_⟩
      · rintro i σ H4 hi ⟨vs, ds, v4, v5, v6, v7, v8, rfl, D4, hl, hT⟩
        refine ⟨_, rfl, _, rfl, d, g, c, _, _, rfl, D4.st, by omega, by omega, by omega, fun H5 a K5 S5 a0 a1 => ?_⟩
        have D5 := D4.draw Ld Lg K5 S5
        refine ⟨_, rfl, _, rfl, d, g, c, _, _, rfl, S5, by omega, by omega, by omega, fun H6 b K6 S6 b0 b1 => ?_⟩
        have D6 := D5.draw Ld Lg K6 S6
        refine ⟨_, _, rfl, ?_⟩
        refine ⟨_, rfl, .inl ⟨rfl, _, SqL.of D6.ls⟩, _, rfl, _, rfl, d, g, c, _, rfl, S6, by omega, fun H7 f K7 S7 f0 f1 f2 => ?_⟩
        have D7 := D6.draw Ld Lg K7 S7
        refine ⟨_, rfl, _, rfl, d, g, c, _, rfl, S7, by omega, fun H8 s K8 S8 s0 s1 s2 => ?_⟩
        have D8 := D7.draw Ld Lg K8 S8
        refine ⟨(by decide : 4 ≤ sizeLine), fun t ht => ?_⟩
        have e9 := same_upd (o := .tup (doorV ⟨a, f, b, s⟩)) ht
        have g9 : (upd H8 t (.tup (doorV ⟨a, f, b, s⟩))) t = some (.tup (doorV ⟨a, f, b, s⟩)) := upd_same
        have D9 := D8.same e9
        have hvl : vs.length = ds.length := D4.pr.length
        have ho : okDr R ⟨a, f, b, s⟩ := ⟨a0, a1, b0, b1, f0, s0, by show -999 ≤ f; omega, by show f ≤ 999; omega, by show -999 ≤ s; omega, by show s ≤ 999; omega⟩
        refine ⟨L, vs, _, rfl, rfl, D9.ls, small_line (by omega), vs ++ [V.ref t], ds ++ [⟨a, f, b, s⟩], _, _, _, _, _, rfl, ?_, by rw [List.length_append, List.length_singleton]; omega, hT.more⟩
        have DA := D9.push hL Lg Lc g9 ho
        exact ⟨DA.kp, DA.st.le (by omega), DA.ls, DA.pr, DA.ok⟩
      · rintro σ H4 ⟨vs, ds, v4, v5, v6, v7, v8, rfl, D4, hl, hT⟩
        have hl : ds.length ≤ 11 := by omega
        have S4 := D4.st.le (show n + 35 + 10 * z.toNat ≤ n + 85 by omega)
        have hvl : vs.length = ds.length := D4.pr.length
        refine ⟨_, rfl, L, rfl, ⟨_, SqL.of D4.ls⟩, fun M hM => ?_⟩
        obtain ⟨Md, Mg⟩ := S4.ned hM
        have Mc := S4.nec hM
        have e5 := same_upd (o := .lst []) hM
        refine lc_list (K := K) (a := L) (xs := vs) (fun i H' => ∃ (ws : List V) (es : List Dr), DSt d g c (n + 85 + i) M R H4 H' ws es ∧ Paired (fun e d => e = d ∨ e = d.flip) es (ds.take i))
          ⟨[], [], ⟨kp_of e5, S4.same e5, upd_same, .nil, fun d hd => by cases hd⟩, .nil⟩ (fun i H' _ ⟨_, _, E, _⟩ => SqL.of (E.kp _ _ Ld Lg D4.ls)) ?_ ?_
        · rintro i x H6 hx ⟨ws, es, E6, hP⟩
          have hi : i < vs.length := (List.getElem?_eq_some_iff.mp hx).1
          obtain ⟨dr, hdr, a, rfl, ha⟩ := pair_at' D4.pr hx
          have hdo := D4.ok dr (List.mem_of_getElem? hdr)
          have hwl : ws.length ≤ i := by
            rw [E6.pr.length, hP.length]
            exact List.length_take_le _ _
          refine ⟨rfl, _, rfl, d, g, c, _, _, rfl, E6.st, by omega, by decide, by decide, fun H7 y K7 S7 y0 y1 => ?_⟩
          have E7 := E6.draw Md Mg K7 S7
          have ha7 := (D4.st.tk E7.kp).1 _ _ ha
          refine ⟨rfl, _, rfl, ite2 (fun c => ?_) (fun c => ?_)⟩
          · have E8 := E7.push hM Mg Mc ha7 hdo
            refine ⟨_, rfl, ws, E7.ls, small_line (by omega), ws ++ [V.ref a], es ++ [dr], ⟨E8.kp, E8.st.le (by omega), E8.ls, E8.pr, E8.ok⟩, ?_⟩
            rw [take_more hdr]
            exact pair_app hP (.cons (.inl rfl) .nil)
          · refine ⟨_, rfl, a, _, _, _, rfl, rfl, SqT.of ha7, rfl, _, rfl, a, _, _, _, rfl, rfl, SqT.of ha7, rfl, _, rfl, a, _, _, _, rfl, rfl, SqT.of ha7, rfl, _, rfl, a, _, _, _, rfl, rfl, SqT.of ha7, rfl, (by decide : 4 ≤ sizeLine), fun t ht => ?_⟩
            have e8 := same_upd (o := .tup (doorV dr.flip)) ht
            have g8 : (upd H7 t (.tup (doorV dr.flip))) t = some (.tup (doorV dr.flip)) := upd_same
            have E8 := E7.same e8
            have E9 := E8.push hM Mg Mc g8 (flip_ok hdo)
            refine ⟨ws, E8.ls, small_line (by omega), ws ++ [V.ref t], es ++ [dr.flip], ⟨E9.kp, E9.st.le (by omega), E9.ls, E9.pr, E9.ok⟩, ?_⟩
            rw [take_more hdr]
            exact pair_app hP (.cons (.inr rfl) .nil)
        · rintro H6 ⟨ws, es, E6, hP⟩
          rw [hvl, List.take_length] at hP
          have hel : es.length = ds.length := hP.length
          have hwl : ws.length = es.length := E6.pr.length
          refine ⟨_, rfl, _, rfl, d, g, c, M, _, ws, rfl, E6.st, by omega, SqL.of E6.ls, by omega, fun x hx => ?_, fun H7 q ys K7 S7 hq hq1 nqg perm => ?_⟩
          · obtain ⟨i, hi, e⟩ := List.mem_iff_getElem.mp hx
            obtain ⟨dr, _, hdr⟩ := pair_at' E6.pr (show ws[i]? = some x by rw [List.getElem?_eq_getElem hi, e])
            exact hdr.ti
          · obtain ⟨es', hP', pm⟩ := pair_perm perm E6.pr
            refine ⟨q, ys, rfl, .inl ⟨SqL.of hq1, fun t ht => ?_⟩⟩
            have e8 := same_upd (o := .tup ys) ht
            have tk8 := (E6.st.tk K7).trans (tk_of e8)
            refine k _ t es' (((D4.kp.trans E6.kp).trans K7).trans (kp_of e8)) ((S7.same e8).le (by omega)) ⟨ys, upd_same, doors_tk hP' tk8⟩ ⟨hR1, hR7, by rw [pm.length_eq]; omega, fun dr hdr => E6.ok dr (pm.mem_iff.mp hdr), ?_⟩
            exact ((hT.flips hP).perm pm).conn
end
end K19

set_option Elab.async false
set_option linter.all false
set_option maxRecDepth 100000
set_option maxHeartbeats 4000000
/-! The law's houses. -/
namespace K19
open PySem L2

/-- a list that grows -/
structure GSt {α : Type} (F : Hp → V → α → Prop) (d g c : Addr) (n : Nat) (L : Addr) (H H' : Hp) (vs : List V) (xs : List α) : Prop where
  kp : Kp d g H H'
  st : StAt d g c n H'
  ls : H' L = some (.lst vs)
  pr : Paired (F H') vs xs
def Stable {α : Type} (F : Hp → V → α → Prop) : Prop := ∀ H H' v x, F H v x → TK H H' → F H' v x
section
variable {α : Type} {F : Hp → V → α → Prop} {d g c L : Addr} {n m : Nat} {H H1 H2 : Hp} {vs : List V} {xs : List α}
theorem GSt.same (sF : Stable F) (D : GSt F d g c n L H H1 vs xs) (e : Same H1 H2) : GSt F d g c n L H H2 vs xs := ⟨D.kp.trans (kp_of e), D.st.same e, e _ _ D.ls, L2.Paired.mapP D.pr fun _ _ z => sF _ _ _ _ z (tk_of e)⟩
theorem GSt.draw (sF : Stable F) (D : GSt F d g c n L H H1 vs xs) (n1 : L ≠ d) (n2 : L ≠ g) (k : Kp d g H1 H2) (s : StAt d g c m H2) : GSt F d g c m L H H2 vs xs := ⟨D.kp.trans k, s, k _ _ n1 n2 D.ls, L2.Paired.mapP D.pr fun _ _ z => sF _ _ _ _ z (D.st.tk k)⟩
theorem GSt.push (sF : Stable F) (D : GSt F d g c n L H H1 vs xs) (hL : H L = none) (n2 : L ≠ g) (n3 : L ≠ c) {v : V} {x : α} (hx : F H1 v x) : GSt F d g c n L H (upd H1 L (.lst (vs ++ [v]))) (vs ++ [v]) (xs ++ [x]) := by
  have tk := tk_lst (o := .lst (vs ++ [v])) D.ls
  exact ⟨kp_write D.kp hL, D.st.other D.ls n2 n3, upd_same, pair_app (L2.Paired.mapP D.pr fun _ _ z => sF _ _ _ _ z tk) (.cons (sF _ _ _ _ hx tk) .nil)⟩
theorem GSt.le (D : GSt F d g c n L H H1 vs xs) (h : n ≤ m) : GSt F d g c m L H H1 vs xs := ⟨D.kp, D.st.le h, D.ls, D.pr⟩
end
def IsN (_ : Hp) (v : V) (x : Int) : Prop := v = .int x
theorem stable_n : Stable IsN := fun _ _ _ _ h _ => h
/-- two rooms -/
def IsPr (H : Hp) (v : V) (d : Dr) : Prop := ∃ a, v = .ref a ∧ H a = some (.tup [.int d.n, .int d.r])
theorem stable_pr : Stable IsPr := fun _ _ _ _ ⟨a, e, h⟩ k => ⟨a, e, k.1 _ _ h⟩
theorem stable_door : Stable IsDoor := fun _ _ _ _ h k => h.tk k
theorem ns_of {H : Hp} : ∀ {vs : List V} {ns : List Int}, Paired (IsN H) vs ns → vs = ns.map V.int
  | _, _, .nil => rfl
  | _, _, .cons h t => by
    rw [ns_of t, show _ = V.int _ from h]
    rfl
theorem Tree.of {ds es : List Dr} {m : Int} (h : Tree ds m) (p : Paired (fun e d : Dr => e.n = d.n ∧ e.r = d.r) es ds) : Tree es m := fun r r0 r1 => by
  obtain ⟨d, hd, q⟩ := h r r0 r1
  obtain ⟨i, hi, e⟩ := List.mem_iff_getElem.mp hd
  obtain ⟨d', hd', z1, z2⟩ := pair_at p (show ds[i]? = some d by rw [List.getElem?_eq_getElem hi, e])
  refine ⟨d', List.mem_of_getElem? hd', ?_⟩
  unfold Down
  rw [z1, z2]
  exact q
theorem quot_laws {m a x : Int} (m1 : 1 ≤ m) (m2 : m ≤ 36) (ha : a ∣ m) (a1 : 1 ≤ a) (x1 : 1 ≤ x) (x2 : x ≤ 5) : 1 ≤ m * x / a ∧ m * x / a ≤ 180 ∧ 1 ≤ m * x ∧ m * x ≤ 180 := by
  have h1 : a ≤ m := Int.le_of_dvd (by omega) ha
  have h2 : m * 1 ≤ m * x := Int.mul_le_mul_of_nonneg_left x1 (by omega)
  have h3 : m * x ≤ 36 * x := Int.mul_le_mul_of_nonneg_right m2 (by omega)
  have h4 : m * x / a ≤ m * x := Int.ediv_le_self _ (by omega)
  have h5 : 1 ≤ m * x / a := Int.le_ediv_of_mul_le (by omega) (by omega)
  omega
def spHouse : Sp := fun vs H Q _ => ∃ (d g c : Addr) (n : Nat), vs = [.ref d, .int 7, .int 5] ∧ StAt d g c n H ∧ n + 300 ≤ 1000000 ∧
  ∀ (H' : Hp) (q D : Addr) (R : Nat) (ds : List Dr), Kp d g H H' → StAt d g c (n + 300) H' → H' q = some (.tup [.int (R : Int), .ref D]) → IsDoors H' D ds → House R ds → Q (.ref q) H'
def spFitting : Sp := fun vs H Q _ => ∃ (d g c : Addr) (n R : Nat), vs = [.ref d, .int (R : Int), .int 5] ∧ StAt d g c n H ∧ n + 200 ≤ 1000000 ∧ 1 ≤ R ∧ R ≤ 7 ∧
  ∀ (H' : Hp) (q D Z : Addr) (ds : List Dr), Kp d g H H' → StAt d g c (n + 200) H' → H' q = some (.tup [.ref D, .ref Z]) → IsDoors H' D ds → House R ds → Q (.ref q) H'

section
variable {P : Program} {w : World} {K : PySem.W.Frag} {mg : Str → Option Value} {base : Heap} {f : Addr} {fd : FuncData}
theorem ok_house (F : Fun K "_law_house" "_law_house" s_house f fd) (DD : DefAt P w K mg base CX0 2 "_law_draw" a_draw spDraw) (DO : DefAt P w K mg base CX0 5 "_law_doors" a_doors spDoors) : FnOk P w K mg base CX0 6 f fd a_house spHouse := by
  refine F.ok sc_house (fun vs H Q E h => ?_) (fun cdv A outer s H vs Q E hr h => ?_)
  · obtain ⟨d, g, c, n, rfl, _⟩ := h
    rfl
  · obtain ⟨d, g, c, n, rfl, hS, hn, k⟩ := h
    have hr2 : Room 2 _ := hr.mono (by decide)
    refine ⟨_, pss_cons (ps_set (i := 3) sc_house.nd rfl (Or.inl rfl) (pe_op op_add pe_int (pe_def DD hr2 rfl (pa_cons (pv 0) (pa_cons (pv 1) pa_nil)))))
      (pss_one (ps_ret (pe_tup (pa_cons (pv 3) (pa_cons (pe_def DO hr rfl (pa_cons (pv 0) (pa_cons (pv 3) (pa_cons (pv 2) pa_nil)))) pa_nil))))), ?_⟩
    refine ⟨_, rfl, _, rfl, d, g, c, n, _, rfl, hS, by omega, by decide, by decide, fun H1 z K1 S1 z0 z1 => ?_⟩
    refine ⟨_, _, rfl, rfl, ?_⟩
    have z1 : z < 7 := z1
    have e : (1 : Int) + z = ((1 + z.toNat : Nat) : Int) := by omega
    show gName 3 (V.int (1 + z)) _ H1 _
    rw [e]
    refine ⟨_, rfl, _, rfl, _, rfl, _, rfl, d, g, c, n + 1, 1 + z.toNat, rfl, S1, by omega, by omega, by omega, fun H2 D ds K2 S2 hD hH => ?_⟩
    refine ⟨(by decide : 2 ≤ sizeLine), fun q hq => ?_⟩
    have e3 := same_upd (o := .tup [V.int ((1 + z.toNat : Nat) : Int), V.ref D]) hq
    exact k _ q D _ ds ((K1.trans K2).trans (kp_of e3)) ((S2.same e3).le (by omega)) upd_same (hD.tk (tk_of e3)) hH
theorem ok_fitting (F : Fun K "_law_fitting_doors" "_law_fitting_doors" s_fitting_doors f fd) (B : Blt mg) (DD : DefAt P w K mg base CX0 2 "_law_draw" a_draw spDraw) (DP : DefAt P w K mg base CX0 3 "_law_pick" a_pick spPick) (DM : DefAt P w K mg base CX0 3 "_law_mixed" a_mixed (spMixed K)) (DU : DefAt P w K mg base CX0 2 "_law_multiple" a_multiple spMultiple) : FnOk P w K mg base CX0 4 f fd a_fitting_doors spFitting := by
  refine F.ok sc_fitting_doors (fun vs H Q E h => ?_) (fun cdv A outer s H vs Q E hr h => ?_)
  · obtain ⟨d, g, c, n, R, rfl, _⟩ := h
    rfl
  · obtain ⟨d, g, c, n, R, rfl, hS, hn, hR1, hR7, k⟩ := h
    have hr2 : Room 2 _ := hr.mono (by decide)
    refine ⟨_, pss_cons (ps_setLc (i := 3) (own := [("_law_room_here", 12)]) (g := gName 12) (tt := tYes) rfl sc_fitting_doors.nd rfl rfl (sw_true rfl rfl rfl (by decide +kernel)) (pi_range1 rfl B.range (pa_cons (pv 1) pa_nil)) (blkOk_by (N := n_fitting_doors) (sc := defScope s_fitting_doors) (by decide +kernel)) (fun _ _ _ _ _ => pg_name (i := 12) sc_fitting_doors.nd rfl (Or.inl rfl)) (fun _ _ _ _ _ => pts_nil)
          (fun _ _ _ _ _ => by exact (pe_def DP hr rfl (pa_cons (pv 0) (pa_cons (pe_lst (pa_cons pe_int (pa_cons pe_int (pa_cons pe_int (pa_cons pe_int (pa_cons pe_int (pa_cons pe_int (pa_cons pe_int pa_nil)))))))) pa_nil)))))
      (pss_cons (ps_setLc (i := 4) (own := [("_law_room_here", 12)]) (g := gName 12) (tt := tYes) rfl sc_fitting_doors.nd rfl rfl (sw_true rfl rfl rfl (by decide +kernel)) (pi_range2 rfl B.range (pa_cons pe_int (pa_cons (pv 1) pa_nil))) (blkOk_by (N := n_fitting_doors) (sc := defScope s_fitting_doors) (by decide +kernel)) (fun _ _ _ _ _ => pg_name (i := 12) sc_fitting_doors.nd rfl (Or.inl rfl)) (fun _ _ _ _ _ => pts_nil)
          (fun _ _ _ _ _ => by exact (pe_tup (pa_cons (pe_def DD hr2 rfl (pa_cons (pv 0) (pa_cons (pv 12) pa_nil))) (pa_cons (pv 12) pa_nil)))))
      (pss_cons (ps_for PassesOwn.never rfl (pi_range1 rfl B.range (pa_cons (pe_def DD hr2 rfl (pa_cons (pv 0) (pa_cons (pe_op op_add (pv 2) pe_int) pa_nil))) pa_nil)) (pg_name (i := 5) sc_fitting_doors.nd rfl (Or.inl rfl))
        (pss_one (ps_expr (pe_bm PySem.F.plainAttrs_list PySem.F.slot_list_append PySem.F.type_list_append mt_append (pv 4) (pa_cons
          (pe_tup (pa_cons (pe_def DD hr2 rfl (pa_cons (pv 0) (pa_cons (pv 1) pa_nil))) (pa_cons (pe_def DD hr2 rfl (pa_cons (pv 0) (pa_cons (pv 1) pa_nil))) pa_nil))) pa_nil)))))
      (pss_cons (ps_set (i := 6) sc_fitting_doors.nd rfl (Or.inl rfl) (pe_lst pa_nil))
      (pss_cons (ps_for PassesOwn.never rfl (pi_list (pe_def DM hr rfl (pa_cons (pv 0) (pa_cons (pv 4) pa_nil)))) (pg_tup rfl (pgs_cons (pg_name (i := 7) sc_fitting_doors.nd rfl (Or.inl rfl)) (pgs_cons (pg_name (i := 8) sc_fitting_doors.nd rfl (Or.inl rfl)) pgs_nil)))
        (pss_cons (ps_set (i := 9) sc_fitting_doors.nd rfl (Or.inl rfl) (pe_op op_mul (pe_def DU hr2 rfl (pa_cons (pe_lst (pa_cons (pe_ix ix_list (pv 3) (pv 7) (fun _ _ => rfl)) (pa_cons (pe_ix ix_list (pv 3) (pv 8) (fun _ _ => rfl)) pa_nil))) pa_nil))
            (pe_def DP hr rfl (pa_cons (pv 0) (pa_cons (pe_lst (pa_cons pe_int (pa_cons pe_int (pa_cons pe_int (pa_cons pe_int (pa_cons pe_int pa_nil)))))) pa_nil)))))
        (pss_cons (ps_set (i := 10) sc_fitting_doors.nd rfl (Or.inl rfl) (pe_op op_mul (pe_op op_fdiv (pv 9) (pe_ix ix_list (pv 3) (pv 7) (fun _ _ => rfl))) (pe_def DP hr rfl (pa_cons (pv 0) (pa_cons (pe_lst (pa_cons pe_int (pa_cons pe_int (pa_cons (pe_un un_neg pe_int) pa_nil)))) pa_nil)))))
        (pss_cons (ps_set (i := 11) sc_fitting_doors.nd rfl (Or.inl rfl) (pe_op op_mul (pe_op op_fdiv (pv 9) (pe_ix ix_list (pv 3) (pv 8) (fun _ _ => rfl))) (pe_def DP hr rfl (pa_cons (pv 0) (pa_cons (pe_lst (pa_cons pe_int (pa_cons pe_int (pa_cons (pe_un un_neg pe_int) pa_nil)))) pa_nil)))))
        (pss_one (ps_expr (pe_bm PySem.F.plainAttrs_list PySem.F.slot_list_append PySem.F.type_list_append mt_append (pv 6) (pa_cons
          (pe_tup (pa_cons (pv 7) (pa_cons (pv 10) (pa_cons (pv 8) (pa_cons (pv 11) pa_nil))))) pa_nil))))))))
      (pss_one (ps_ret (pe_tup (pa_cons (pe_callTy call_tuple_of (by rfl) B.tuple (by decide +kernel) (pa_cons (pv 6) pa_nil)) (pa_cons (pe_callTy call_tuple_of (by rfl) B.tuple (by decide +kernel) (pa_cons (pv 3) pa_nil)) pa_nil))))))))), ?_⟩
    -- lengths
    refine ⟨_, rfl, _, rfl, by omega, by omega, fun A1 hA1 => ?_⟩
    have en : (R : Int).toNat = R := by omega
    rw [en]
    obtain ⟨Ad, Ag⟩ := hS.ned hA1
    have Ac := hS.nec hA1
    have e1 := same_upd (o := .lst []) hA1
    refine lc_range (lo := 0) (n := R) (fun i H' => ∃ (vs : List V) (ns : List Int), GSt IsN d g c (n + i) A1 H H' vs ns ∧ ns.length = i ∧ ∀ x ∈ ns, 1 ≤ x ∧ x ≤ 6)
      ⟨[], [], ⟨kp_of e1, hS.same e1, upd_same, .nil⟩, rfl, fun x hx => by cases hx⟩ ?_ ?_
    · rintro i H1 hi ⟨vs, ns, G1, hl, hb⟩
      refine ⟨rfl, _, rfl, (by decide : 7 ≤ sizeLine), fun p hp => ?_⟩
      have e2 := same_upd (o := .lst (([1, 2, 3, 4, 6, 5, 1] : List Int).map V.int)) hp
      have G2 := G1.same stable_n e2
      refine ⟨d, g, c, p, _, ([1, 2, 3, 4, 6, 5, 1] : List Int).map V.int, rfl, G2.st, by omega, upd_same, (G1.st.ned hp).2, by simp, by decide, fun H2 x K2 S2 hx => ?_⟩
      obtain ⟨z, hz, rfl⟩ := List.mem_map.mp hx
      have hz2 : 1 ≤ z ∧ z ≤ 6 := (by decide : ∀ z ∈ ([1, 2, 3, 4, 6, 5, 1] : List Int), 1 ≤ z ∧ z ≤ 6) z hz
      have G3 := G2.draw stable_n Ad Ag K2 S2
      have hvl : vs.length = ns.length := G1.pr.length
      refine ⟨vs, G3.ls, small_line (by omega), vs ++ [V.int z], ns ++ [z], G3.push stable_n hA1 Ag Ac rfl, by rw [List.length_append, List.length_singleton, hl], fun x hx => ?_⟩
      rcases List.mem_append.mp hx with q | q
      · exact hb x q
      · rw [List.mem_singleton.mp q]
        exact hz2
    rintro H1 ⟨vsN, ns, G1, hnl, hnb⟩
    -- pairs
    have S1 := G1.st
    refine ⟨_, rfl, 1, (R : Int), rfl, ⟨by decide, by decide, by omega, by omega⟩, fun A2 hA2 => ?_⟩
    obtain ⟨Bd, Bg⟩ := S1.ned hA2
    have Bc := S1.nec hA2
    have e2 := same_upd (o := .lst []) hA2
    refine lc_range (lo := 1) (n := ((R : Int) - 1).toNat) (fun i H' => ∃ (vs : List V) (ds : List Dr), GSt IsPr d g c (n + R + i) A2 H1 H' vs ds ∧ ds.length = i ∧ (∀ x ∈ ds, 0 ≤ x.n ∧ x.n < R ∧ 0 ≤ x.r ∧ x.r < R) ∧ Tree ds (1 + i))
      ⟨[], [], ⟨kp_of e2, S1.same e2, upd_same, .nil⟩, rfl, fun x hx => (by cases hx), fun r r0 r1 => by omega⟩ ?_ ?_
    · rintro i H2 hi ⟨vs, ds, G2, hl, hb, hT⟩
      refine ⟨rfl, _, rfl, _, rfl, d, g, c, _, _, rfl, G2.st, by omega, by omega, by omega, fun H3 z K3 S3 z0 z1 => ?_⟩
      have G3 := G2.draw stable_pr Bd Bg K3 S3
      refine ⟨_, rfl, (by decide : 2 ≤ sizeLine), fun t ht => ?_⟩
      have e4 := same_upd (o := .tup [V.int z, V.int (1 + (i : Int))]) ht
      have g4 : (upd H3 t (.tup [V.int z, V.int (1 + (i : Int))])) t = some (.tup [V.int z, V.int (1 + (i : Int))]) := upd_same
      have G4 := G3.same stable_pr e4
      have hvl : vs.length = ds.length := G2.pr.length
      refine ⟨vs, G4.ls, small_line (by omega), vs ++ [V.ref t], ds ++ [⟨z, 1, 1 + (i : Int), 1⟩], (G4.push stable_pr hA2 Bg Bc ⟨t, rfl, g4⟩).le (by omega), by rw [List.length_append, List.length_singleton, hl], fun x hx => ?_, ?_⟩
      · rcases List.mem_append.mp hx with q | q
        · exact hb x q
        · rw [List.mem_singleton.mp q]
          exact ⟨z0, by show z < (R : Int); omega, by show 0 ≤ 1 + (i : Int); omega, by show 1 + (i : Int) < R; omega⟩
      · have hT2 := hT.snoc (d := ⟨z, 1, 1 + (i : Int), 1⟩) (.inr ⟨rfl, z0, z1⟩)
        rw [Int.add_assoc] at hT2
        exact hT2
    rintro H2 ⟨vs, ds, G2, hl, hb, hT⟩
    have hT : Tree ds R := by rw [show (1 : Int) + (((R : Int) - 1).toNat : Nat) = (R : Int) by omega] at hT; exact hT
    -- more pairs
    refine ⟨_, rfl, _, rfl, _, _, rfl, rfl, d, g, c, _, _, rfl, G2.st, by omega, by decide, by decide, fun H3 z K3 S3 z0 z1 => ?_⟩
    have G3 := G2.draw stable_pr Bd Bg K3 S3
    have z1 : z < 6 := z1
    refine ⟨_, rfl, by omega, by omega, for_range (lo := 0) (n := z.toNat) (fun i σ H' => ∃ (vs : List V) (ds : List Dr) (v5 : Option V), σ = [some (.ref d), some (.int (R : Int)), some (.int 5), some (.ref A1), some (.ref A2), v5, none, none, none, none, none, none, none] ∧ GSt IsPr d g c (n + 20 + 2 * i) A2 H1 H' vs ds ∧ ds.length ≤ 6 + i ∧ (∀ x ∈ ds, 0 ≤ x.n ∧ x.n < R ∧ 0 ≤ x.r ∧ x.r < R) ∧ Tree ds R)
      ⟨vs, ds, _, rfl, G3.le (by omega), by omega, hb, hT⟩ ?_ ?_⟩
    · rintro i σ H4 hi ⟨vs, ds, v5, rfl, G4, hl, hb, hT⟩
      refine ⟨_, rfl, .inl ⟨rfl, _, SqL.of G4.ls⟩, _, rfl, _, rfl, d, g, c, _, _, rfl, G4.st, by omega, by omega, by omega, fun H5 a K5 S5 a0 a1 => ?_⟩
      have G5 := G4.draw stable_pr Bd Bg K5 S5
      refine ⟨_, rfl, _, rfl, d, g, c, _, _, rfl, S5, by omega, by omega, by omega, fun H6 b K6 S6 b0 b1 => ?_⟩
      have G6 := G5.draw stable_pr Bd Bg K6 S6
      refine ⟨(by decide : 2 ≤ sizeLine), fun t ht => ?_⟩
      have e7 := same_upd (o := .tup [V.int a, V.int b]) ht
      have g7 : (upd H6 t (.tup [V.int a, V.int b])) t = some (.tup [V.int a, V.int b]) := upd_same
      have G7 := G6.same stable_pr e7
      have hvl : vs.length = ds.length := G4.pr.length
      refine ⟨A2, vs, _, rfl, rfl, G7.ls, small_line (by omega), vs ++ [V.ref t], ds ++ [⟨a, 1, b, 1⟩], _, rfl, (G7.push stable_pr hA2 Bg Bc ⟨t, rfl, g7⟩).le (by omega), by rw [List.length_append, List.length_singleton]; omega, fun x hx => ?_, hT.more⟩
      rcases List.mem_append.mp hx with q | q
      · exact hb x q
      · rw [List.mem_singleton.mp q]
        exact ⟨a0, a1, b0, b1⟩
    rintro σ H4 ⟨vs, ds, v5, rfl, G4, hl, hb, hT⟩
    have hl : ds.length ≤ 11 := by omega
    have G4 := G4.le (show n + 20 + 2 * z.toNat ≤ n + 30 by omega)
    have hvl : vs.length = ds.length := G4.pr.length
    -- found
    refine ⟨(by decide : 0 ≤ sizeLine), fun L hL => ?_⟩
    obtain ⟨Ld, Lg⟩ := G4.st.ned hL
    have Lc := G4.st.nec hL
    have e5 := same_upd (o := .lst []) hL
    have G5 := G4.same stable_pr e5
    have hA1' : ∀ {H'}, Kp d g H1 H' → H' A1 = some (.lst (ns.map V.int)) := fun k => by rw [← ns_of G1.pr]; exact k _ _ Ad Ag G1.ls
    refine ⟨_, rfl, _, rfl, d, g, c, A2, _, vs, rfl, G5.st, by omega, SqL.of G5.ls, by omega, fun x hx => ?_, fun H6 q ys K6 S6 hq hq1 nqg perm => ?_⟩
    · obtain ⟨i, hi, e⟩ := List.mem_iff_getElem.mp hx
      obtain ⟨dr, _, a, e', ha⟩ := pair_at' G5.pr (show vs[i]? = some x by rw [List.getElem?_eq_getElem hi, e])
      exact ⟨a, [dr.n, dr.r], e', ha⟩
    obtain ⟨es, hP', pm⟩ := pair_perm perm G5.pr
    have hP6 : Paired (IsPr H6) ys es := L2.Paired.mapP hP' fun _ _ z => stable_pr _ _ _ _ z (G5.st.tk K6)
    have S6 := S6.le (show n + 30 + vs.length ≤ n + 50 by omega)
    have hel : es.length = ds.length := pm.length_eq
    have hyl : ys.length = es.length := hP6.length
    have nqd : q ≠ d := (G5.st.ned hq).1
    have hTe := hT.perm pm
    have hbe : ∀ x ∈ es, 0 ≤ x.n ∧ x.n < R ∧ 0 ≤ x.r ∧ x.r < R := fun x hx => hb x (pm.mem_iff.mp hx)
    have hL6 : H6 L = some (.lst []) := K6 _ _ Ld Lg upd_same
    have nLq : L ≠ q := (ne_of_none (show (upd H4 L (HO.lst [])) L = some (.lst []) from upd_same) hq)
    refine ⟨q, rfl, ⟨_, SqL.of hq1⟩, for_list (K := K) (a := q) (xs := ys) (fun i σ H' => ∃ (ws : List V) (fs : List Dr) (v5 v7 v8 v9 v10 v11 : Option V), σ = [some (.ref d), some (.int (R : Int)), some (.int 5), some (.ref A1), some (.ref A2), v5, some (.ref L), v7, v8, v9, v10, v11, none] ∧ GSt IsDoor d g c (n + 50 + 3 * i) L H4 H' ws fs ∧ Kp d g H1 H' ∧ H' q = some (.lst ys) ∧ Paired (IsPr H') ys es ∧ (∀ x ∈ fs, okDr R x) ∧ Paired (fun e d : Dr => e.n = d.n ∧ e.r = d.r) fs (es.take i))
      ⟨[], [], _, _, _, _, _, _, rfl, ⟨(kp_of e5).trans K6, S6, hL6, .nil⟩, G5.kp.trans K6, hq1, hP6, fun x hx => (by cases hx), .nil⟩ (fun i σ H' _ ⟨_, _, _, _, _, _, _, _, _, _, _, h, _⟩ => SqL.of h) ?_ ?_⟩
    · rintro i x σ H7 hx ⟨ws, fs, v5, v7, v8, v9, v10, v11, rfl, G7, K7, hq7, hP7, hok, hR⟩
      have hi := (List.getElem?_eq_some_iff.mp hx).1
      obtain ⟨pr, hpr, a, rfl, ha⟩ := pair_at' hP7 hx
      obtain ⟨b1, b2, b3, b4⟩ := hbe pr (List.mem_of_getElem? hpr)
      have hwl : ws.length ≤ i := by
        rw [G7.pr.length, hR.length]
        exact List.length_take_le _ _
      obtain ⟨x1, x2⟩ := hnb _ (getD_mem (d := 0) (show pr.n.toNat < ns.length by omega))
      obtain ⟨y1, y2⟩ := hnb _ (getD_mem (d := 0) (show pr.r.toNat < ns.length by omega))
      have atn : atI (ns.map V.int) pr.n = some (.int (ns.getD pr.n.toNat 0)) := atI_map b1 (by omega)
      have atr : atI (ns.map V.int) pr.r = some (.int (ns.getD pr.r.toNat 0)) := atI_map b3 (by omega)
      generalize ns.getD pr.n.toNat 0 = la at x1 x2 atn
      generalize ns.getD pr.r.toNat 0 = lb at y1 y2 atr
      refine ⟨a, _, rfl, SqT.of ha, rfl, ⟨_, _, rfl, _, _, rfl, rfl, ?_⟩⟩
      refine ⟨_, rfl, _, rfl, A1, _, _, _, rfl, rfl, SqL.of (hA1' K7), atn, _, rfl, _, rfl, A1, _, _, _, rfl, rfl, SqL.of (hA1' K7), atr, (by decide : 2 ≤ sizeLine), fun p1 hp1 => ?_⟩
      have e8 := same_upd (o := .lst [V.int la, V.int lb]) hp1
      have G8 := G7.same stable_door e8
      have K8 := K7.trans (kp_of e8)
      have hq8 := e8 _ _ hq7
      have hP8 : Paired (IsPr _) ys es := L2.Paired.mapP hP7 fun _ _ z => stable_pr _ _ _ _ z (tk_of e8)
      refine ⟨p1, la, lb, rfl, upd_same, x1, x2, y1, y2, fun m m1 m2 ma mb => ?_⟩
      generalize upd H7 p1 (.lst [V.int la, V.int lb]) = H8 at e8 G8 K8 hq8 hP8 ⊢
      refine ⟨_, rfl, (by decide : 5 ≤ sizeLine), fun p2 hp2 => ?_⟩
      have e9 := same_upd (o := .lst (([1, 2, 3, 1, 5] : List Int).map V.int)) hp2
      have G9 := G8.same stable_door e9
      have K9 := K8.trans (kp_of e9)
      have hq9 := e9 _ _ hq8
      have hP9 : Paired (IsPr _) ys es := L2.Paired.mapP hP8 fun _ _ z => stable_pr _ _ _ _ z (tk_of e9)
      refine ⟨d, g, c, p2, _, ([1, 2, 3, 1, 5] : List Int).map V.int, rfl, G9.st, by omega, upd_same, (G8.st.ned hp2).2, by simp, by decide, fun HA x KA SA hx => ?_⟩
      obtain ⟨wx, hwx, rfl⟩ := List.mem_map.mp hx
      have hwx2 : 1 ≤ wx ∧ wx ≤ 5 := (by decide : ∀ z ∈ ([1, 2, 3, 1, 5] : List Int), 1 ≤ z ∧ z ≤ 5) wx hwx
      have GA := G9.draw stable_door Ld Lg KA SA
      have KA' := K9.trans KA
      have hqA := KA _ _ nqd nqg hq9
      have hPA : Paired (IsPr _) ys es := L2.Paired.mapP hP9 fun _ _ z => stable_pr _ _ _ _ z (G9.st.tk KA)
      obtain ⟨qa1, qa2, qa3, qa4⟩ := quot_laws m1 m2 ma x1 hwx2.1 hwx2.2
      obtain ⟨qb1, qb2, _, _⟩ := quot_laws m1 m2 mb y1 hwx2.1 hwx2.2
      refine ⟨_, _, rfl, rfl, .inr ⟨by omega, by omega⟩, ?_⟩
      -- first
      refine ⟨_, rfl, _, rfl, _, rfl, A1, _, _, _, rfl, rfl, SqL.of (hA1' KA'), atn, _, _, rfl, rfl, ⟨by omega, by omega⟩, _, rfl, _, rfl, (by decide : 3 ≤ sizeLine), fun p3 hp3 => ?_⟩
      have eB := same_upd (o := .lst (([1, 1, -1] : List Int).map V.int)) hp3
      have GB := GA.same stable_door eB
      have KB := KA'.trans (kp_of eB)
      have hqB := eB _ _ hqA
      have hPB : Paired (IsPr _) ys es := L2.Paired.mapP hPA fun _ _ z => stable_pr _ _ _ _ z (tk_of eB)
      refine ⟨d, g, c, p3, _, ([1, 1, -1] : List Int).map V.int, rfl, GB.st, by omega, upd_same, (GA.st.ned hp3).2, by simp, by decide, fun HC x KC SC hx => ?_⟩
      obtain ⟨sa, hsa, rfl⟩ := List.mem_map.mp hx
      have hsa2 : sa = 1 ∨ sa = -1 := (by decide : ∀ z ∈ ([1, 1, -1] : List Int), z = 1 ∨ z = -1) sa hsa
      have GC := GB.draw stable_door Ld Lg KC SC
      have KC' := KB.trans KC
      have hqC := KC _ _ nqd nqg hqB
      have hPC : Paired (IsPr _) ys es := L2.Paired.mapP hPB fun _ _ z => stable_pr _ _ _ _ z (GB.st.tk KC)
      refine ⟨_, _, rfl, rfl, .inr (by rcases hsa2 with e | e <;> subst e <;> exact ⟨by decide, by decide⟩), ?_⟩
      -- second
      refine ⟨_, rfl, _, rfl, _, rfl, A1, _, _, _, rfl, rfl, SqL.of (hA1' KC'), atr, _, _, rfl, rfl, ⟨by omega, by omega⟩, _, rfl, _, rfl, (by decide : 3 ≤ sizeLine), fun p4 hp4 => ?_⟩
      have eD := same_upd (o := .lst (([1, 1, -1] : List Int).map V.int)) hp4
      have GD := GC.same stable_door eD
      have KD := KC'.trans (kp_of eD)
      have hqD := eD _ _ hqC
      have hPD : Paired (IsPr _) ys es := L2.Paired.mapP hPC fun _ _ z => stable_pr _ _ _ _ z (tk_of eD)
      refine ⟨d, g, c, p4, _, ([1, 1, -1] : List Int).map V.int, rfl, GD.st, by omega, upd_same, (GC.st.ned hp4).2, by simp, by decide, fun HE x KE SE hx => ?_⟩
      obtain ⟨sb, hsb, rfl⟩ := List.mem_map.mp hx
      have hsb2 : sb = 1 ∨ sb = -1 := (by decide : ∀ z ∈ ([1, 1, -1] : List Int), z = 1 ∨ z = -1) sb hsb
      have GE := GD.draw stable_door Ld Lg KE SE
      have KE' := KD.trans KE
      have hqE := KE _ _ nqd nqg hqD
      have hPE : Paired (IsPr _) ys es := L2.Paired.mapP hPD fun _ _ z => stable_pr _ _ _ _ z (GD.st.tk KE)
      refine ⟨_, _, rfl, rfl, .inr (by rcases hsb2 with e | e <;> subst e <;> exact ⟨by decide, by decide⟩), ?_⟩
      have ho : okDr R ⟨pr.n, m * wx / la * sa, pr.r, m * wx / lb * sb⟩ := by
        refine ⟨b1, b2, b3, b4, ?_, ?_, ?_, ?_, ?_, ?_⟩ <;> first
          | (show m * wx / la * sa ≠ 0; rcases hsa2 with e | e <;> subst e <;> omega)
          | (show m * wx / lb * sb ≠ 0; rcases hsb2 with e | e <;> subst e <;> omega)
          | (show -999 ≤ m * wx / la * sa; rcases hsa2 with e | e <;> subst e <;> omega)
          | (show m * wx / la * sa ≤ 999; rcases hsa2 with e | e <;> subst e <;> omega)
          | (show -999 ≤ m * wx / lb * sb; rcases hsb2 with e | e <;> subst e <;> omega)
          | (show m * wx / lb * sb ≤ 999; rcases hsb2 with e | e <;> subst e <;> omega)
      refine ⟨_, rfl, .inl ⟨rfl, _, SqL.of GE.ls⟩, _, rfl, _, rfl, _, rfl, _, rfl, (by decide : 4 ≤ sizeLine), fun t ht => ?_⟩
      have eF := same_upd (o := .tup (doorV ⟨pr.n, m * wx / la * sa, pr.r, m * wx / lb * sb⟩)) ht
      have gF : (upd HE t (.tup (doorV ⟨pr.n, m * wx / la * sa, pr.r, m * wx / lb * sb⟩))) t = some (.tup (doorV ⟨pr.n, m * wx / la * sa, pr.r, m * wx / lb * sb⟩)) := upd_same
      have GF := GE.same stable_door eF
      have GG := (GF.push stable_door hL Lg Lc ⟨t, rfl, gF⟩)
      have hqF := eF _ _ hqE
      have tkF := (tk_of eF).trans (tk_lst (o := .lst (ws ++ [V.ref t])) GF.ls)
      refine ⟨L, ws, _, rfl, rfl, GF.ls, small_line (by omega), ws ++ [V.ref t], fs ++ [_], _, _, _, _, _, _, rfl, GG.le (by omega), ?_, ?_, L2.Paired.mapP hPE fun _ _ z => stable_pr _ _ _ _ z tkF, fun x hx => ?_, ?_⟩
      · have hLH1 : H1 L = none := by
          cases q1 : H1 L with
          | none => rfl
          | some o =>
            have := G4.kp _ _ Ld Lg q1
            rw [hL] at this
            cases this
        exact kp_write (KE'.trans (kp_of eF)) hLH1
      · rw [upd_ne nLq.symm]
        exact hqF
      · rcases List.mem_append.mp hx with q | q
        · exact hok x q
        · rw [List.mem_singleton.mp q]
          exact ho
      · rw [take_more hpr]
        exact pair_app hR (.cons ⟨rfl, rfl⟩ .nil)
    · rintro σ H7 ⟨ws, fs, v5, v7, v8, v9, v10, v11, rfl, G7, K7, hq7, hP7, hok, hR⟩
      rw [hP7.length, List.take_length] at hR
      have hfl : fs.length = es.length := hR.length
      refine ⟨_, rfl, L, ws, rfl, .inl ⟨SqL.of G7.ls, fun t1 ht1 => ?_⟩⟩
      have e8 := same_upd (o := .tup ws) ht1
      have g8 : (upd H7 t1 (.tup ws)) t1 = some (.tup ws) := upd_same
      have hA := e8 _ _ (hA1' K7)
      have hP8 := doors_tk G7.pr (tk_of e8)
      have S8 := G7.st.same e8
      generalize upd H7 t1 (.tup ws) = H8 at e8 g8 hA hP8 S8 ⊢
      refine ⟨_, rfl, A1, _, rfl, .inl ⟨SqL.of hA, fun t2 ht2 => ?_⟩⟩
      have e9 := same_upd (o := .tup (ns.map V.int)) ht2
      generalize upd H8 t2 (.tup (ns.map V.int)) = H9 at e9 ⊢
      refine ⟨(by decide : 2 ≤ sizeLine), fun t3 ht3 => ?_⟩
      have eA := same_upd (o := .tup [V.ref t1, V.ref t2]) ht3
      have e8A := (e8.trans e9).trans eA
      refine k _ t3 t1 t2 fs ((G1.kp.trans K7).trans (kp_of e8A)) ((S8.same (e9.trans eA)).le (by rw [hyl, hel]; omega)) upd_same ⟨ws, eA _ _ (e9 _ _ g8), doors_tk hP8 (tk_of (e9.trans eA))⟩ ⟨hR1, hR7, by omega, hok, (hTe.of hR).conn⟩
end
end K19

set_option Elab.async false
set_option linter.all false
set_option maxRecDepth 100000
set_option maxHeartbeats 4000000
/-! The law's looks at walks. -/
namespace K19
open PySem L2

def spAnyHouse : Sp := fun vs H Q _ => ∃ (d g c : Addr) (n : Nat), vs = [.ref d, .int 7, .int 5] ∧ StAt d g c n H ∧ n + 400 ≤ 1000000 ∧
  ∀ (H' : Hp) (q D : Addr) (R : Nat) (ds : List Dr), Kp d g H H' → StAt d g c (n + 400) H' → H' q = some (.tup [.int (R : Int), .ref D]) → IsDoors H' D ds → House R ds → Q (.ref q) H'
def spEnd : Sp := fun vs H Q _ => ∃ (D q : Addr) (R : Nat) (ds : List Dr) (ps : List Stp), vs = [.ref D, .ref q] ∧ IsDoors H D ds ∧ House R ds ∧ IsWalk H q 0 ps ∧ Path ds 0 0 ps ∧ ∀ H', Same H H' → Q (.int 0) H'
def spIsWalk : Sp := fun vs H Q _ => ∃ (D q : Addr) (R : Nat) (ds : List Dr) (ps : List Stp), vs = [.ref D, .int (R : Int), .ref q] ∧ IsDoors H D ds ∧ House R ds ∧ IsWalk H q 0 ps ∧ Path ds 0 0 ps ∧ ps.length ≤ 20 ∧ ∀ H', Same H H' → Q (.bl true) H'
def spIsBare : Sp := fun vs H Q _ => ∃ (D q : Addr) (R : Nat) (ds : List Dr) (ps : List Stp), vs = [.int (R : Int), .ref D, .ref q] ∧ IsDoors H D ds ∧ House R ds ∧ IsWalk H q 0 ps ∧ Path ds 0 0 ps ∧ ps.length ≤ 20 ∧ ∀ H', Same H H' → Q (.bl true) H'
theorem path_last {ds : List Dr} {b : Int} {st : Stp} : ∀ {ps : List Stp} {a : Int}, Path ds a b (ps ++ [st]) → okStp ds st ∧ (gate ds st).r = b ∧ Path ds a (gate ds st).n ps
  | [], a, ⟨h1, h2, h3⟩ => ⟨h1, h3, h2.symm⟩
  | p :: ps, a, ⟨h1, h2, h3⟩ => by
    obtain ⟨k1, k2, k3⟩ := path_last h3
    exact ⟨k1, k2, h1, h2, k3⟩
theorem path_take {ds : List Dr} {b : Int} : ∀ {ps : List Stp} {a : Int} {i : Nat} {st : Stp}, Path ds a b ps → ps[i]? = some st → Path ds a (gate ds st).n (ps.take i) ∧ Path ds a (gate ds st).r (ps.take (i + 1))
  | [], a, i, st, _, h => by simp at h
  | p :: ps, a, 0, st, ⟨h1, h2, h3⟩, h => by
    obtain rfl : p = st := Option.some.inj h
    exact ⟨h2.symm, h1, h2, rfl⟩
  | p :: ps, a, i + 1, st, ⟨h1, h2, h3⟩, h => by
    obtain ⟨k1, k2⟩ := path_take (i := i) h3 (by simpa using h)
    exact ⟨⟨h1, h2, k1⟩, ⟨h1, h2, k2⟩⟩
theorem path_end {ds : List Dr} {b c : Int} : ∀ {ps : List Stp} {a : Int}, Path ds a b ps → Path ds a c ps → b = c
  | [], a, h, h' => (show a = b from h).symm.trans h'
  | p :: ps, a, ⟨_, _, h⟩, ⟨_, _, h'⟩ => path_end h h'

theorem atI_last {us : List V} (h : 0 < us.length) : atI us (-1) = us[us.length - 1]? := by
  unfold atI ixN
  rw [if_neg (by decide), if_pos (by omega)]
  show us[((-1 : Int) + (us.length : Int)).toNat]? = _
  rw [show ((-1 : Int) + (us.length : Int)).toNat = us.length - 1 by omega]

section
variable {P : Program} {w : World} {K : PySem.W.Frag} {mg : Str → Option Value} {base : Heap} {f : Addr} {fd : FuncData}
theorem ok_any_house (F : Fun K "_law_any_house" "_law_any_house" s_any_house f fd) (DD : DefAt P w K mg base CX0 2 "_law_draw" a_draw spDraw) (DH : DefAt P w K mg base CX0 6 "_law_house" a_house spHouse) (DF : DefAt P w K mg base CX0 4 "_law_fitting_doors" a_fitting_doors spFitting) : FnOk P w K mg base CX0 7 f fd a_any_house spAnyHouse := by
  refine F.ok sc_any_house (fun vs H Q E h => ?_) (fun cdv A outer s H vs Q E hr h => ?_)
  · obtain ⟨d, g, c, n, rfl, _⟩ := h
    rfl
  · obtain ⟨d, g, c, n, rfl, hS, hn, k⟩ := h
    have hr2 : Room 2 _ := hr.mono (by decide)
    have hr4 : Room 4 _ := hr.mono (by decide)
    refine ⟨_, pss_cons (ps_if (pt_cmpR op_eq (pe_def DD hr2 rfl (pa_cons (pv 0) (pa_cons pe_int pa_nil))) pe_int (nomark _)) (pss_one (ps_ret (pe_def DH hr rfl (pa_cons (pv 0) (pa_cons (pv 1) (pa_cons (pv 2) pa_nil)))))) pss_nil)
      (pss_cons (ps_set (i := 3) sc_any_house.nd rfl (Or.inl rfl) (pe_op op_add pe_int (pe_def DD hr2 rfl (pa_cons (pv 0) (pa_cons (pv 1) pa_nil)))))
      (pss_one (ps_ret (pe_tup (pa_cons (pv 3) (pa_cons (pe_ix ix_tup (pe_def DF hr4 rfl (pa_cons (pv 0) (pa_cons (pv 3) (pa_cons (pv 2) pa_nil)))) pe_int (fun _ _ => rfl)) pa_nil)))))), ?_⟩
    refine ⟨_, rfl, d, g, c, n, _, rfl, hS, by omega, by decide, by decide, fun H0 y K0 S0 y0 y1 => ?_⟩
    refine ⟨rfl, _, rfl, ite2 (fun c => ?_) (fun c => ?_)⟩
    · exact ⟨_, rfl, _, rfl, _, rfl, d, g, _, n + 1, rfl, S0, by omega, fun H' q D R ds K1 S1 hq hD hH => k H' q D R ds (K0.trans K1) (S1.le (by omega)) hq hD hH⟩
    refine ⟨_, rfl, _, rfl, d, g, _, n + 1, _, rfl, S0, by omega, by decide, by decide, fun H1 z K1 S1 z0 z1 => ?_⟩
    refine ⟨_, _, rfl, rfl, ?_⟩
    have z1 : z < 7 := z1
    have e : (1 : Int) + z = ((1 + z.toNat : Nat) : Int) := by omega
    show gName 3 (V.int (1 + z)) _ H1 _
    rw [e]
    refine ⟨_, rfl, _, rfl, _, rfl, _, rfl, d, g, _, n + 2, 1 + z.toNat, rfl, S1, by omega, by omega, by omega, fun H2 q D Z ds K2 S2 hq hD hH => ?_⟩
    refine ⟨q, _, _, _, rfl, rfl, SqT.of hq, rfl, (by decide : 2 ≤ sizeLine), fun p hp => ?_⟩
    have e3 := same_upd (o := .tup [V.int ((1 + z.toNat : Nat) : Int), V.ref D]) hp
    exact k _ p D _ ds (((K0.trans K1).trans K2).trans (kp_of e3)) ((S2.same e3).le (by omega)) upd_same (hD.tk (tk_of e3)) hH
theorem ok_end (F : Fun K "_law_end" "_law_end" s_end f fd) (DG : DefAt P w K mg base CX0 1 "_law_gate" a_gate spGate) : FnOk P w K mg base CX0 2 f fd a_end spEnd := by
  refine F.ok sc_end (fun vs H Q E h => ?_) (fun cdv A outer s H vs Q E hr h => ?_)
  · obtain ⟨D, q, R, ds, ps, rfl, _⟩ := h
    rfl
  · obtain ⟨D, q, R, ds, ps, rfl, hD, hH, hW, hP, k⟩ := h
    refine ⟨_, pss_one (ps_ret (pe_ifExp (pt_cmpR (op_neD hr.units) (pe_ix ix_tup (pv 1) pe_int (fun _ _ => rfl)) (pe_tup pa_nil) (nomark _))
      (pe_ix ix_tup (pe_def DG hr rfl (pa_cons (pv 0) (pa_cons (pe_ix ix_tup (pe_ix ix_tup (pv 1) pe_int (fun _ _ => rfl)) (pe_un un_neg pe_int) (fun _ _ => rfl)) pa_nil))) pe_int (fun _ _ => rfl)) (pe_ix ix_tup (pv 1) pe_int (fun _ _ => rfl)))), ?_⟩
    obtain ⟨Z, S, hq, hZ, hS⟩ := id hW
    refine ⟨_, rfl, q, _, _, _, rfl, rfl, SqT.of hq, rfl, (by decide : 0 ≤ sizeLine), fun t ht => ?_⟩
    have e1 := same_upd (o := .tup []) ht
    have g1 : (upd H t (.tup [])) t = some (.tup []) := upd_same
    generalize upd H t (.tup []) = H1 at e1 g1 ⊢
    have hS1 := hS.tk (tk_of e1)
    obtain ⟨dd, d1, d2, d3, d4⟩ := dp_steps (K := K) hS1
    refine ⟨_, _, d1, .tup (SqT.of g1) .nil, (shaped_of d2 (by omega)).2, rfl, _, rfl, ?_⟩
    show if (!PyData.eqvAll dd []) = true then _ else _
    rw [d4]
    rcases List.eq_nil_or_concat ps with rfl | ⟨p0, st, rfl⟩
    · exact iteF ⟨_, rfl, q, _, _, _, rfl, rfl, SqT.of (e1 _ _ hq), rfl, k _ e1⟩
    · rw [List.concat_eq_append] at hS1 hP ⊢
      obtain ⟨k1, k2, _⟩ := path_last hP
      refine if_true_of' (by cases p0 <;> rfl) ?_
      obtain ⟨us, hus, hPu, hul⟩ := hS1.len
      have hl : (p0 ++ [st])[p0.length]? = some st := by rw [List.getElem?_append_right (Nat.le_refl _), Nat.sub_self]; rfl
      obtain ⟨x, hx, a, rfl, ha⟩ := pair_at hPu hl
      have hlen : us.length = p0.length + 1 := by rw [hul, List.length_append, List.length_singleton]
      have hat : atI us (-1) = some (.ref a) := by
        rw [atI_last (by omega), hlen, Nat.add_sub_cancel]
        exact hx
      refine ⟨_, rfl, _, rfl, q, _, _, _, rfl, rfl, SqT.of (e1 _ _ hq), rfl, _, rfl, S, us, _, _, rfl, rfl, SqT.of hus, hat, ?_⟩
      refine ⟨D, a, ds, st, rfl, hD.tk (tk_of e1), ha, k1, fun g hg => ?_⟩
      have e2 := same_upd (o := .tup (doorV (gate ds st))) hg
      refine ⟨g, _, _, _, rfl, rfl, SqT.of upd_same, rfl, ?_⟩
      show Q (.int (gate ds st).r) _
      rw [k2]
      exact k _ (e1.trans e2)
theorem ok_is_walk (F : Fun K "_law_is_walk" "_law_is_walk" s_is_walk f fd) (B : Blt mg) (DI : DefAt P w K mg base CX0 1 "_law_is_whole" a_is_whole spWhole) (DG : DefAt P w K mg base CX0 1 "_law_gate" a_gate spGate) : FnOk P w K mg base CX0 2 f fd a_is_walk spIsWalk := by
  refine F.ok sc_is_walk (fun vs H Q E h => ?_) (fun cdv A outer s H vs Q E hr h => ?_)
  · obtain ⟨D, q, R, ds, ps, rfl, _⟩ := h
    rfl
  · obtain ⟨D, q, R, ds, ps, rfl, hD, hH, hW, hP, hpl, k⟩ := h
    refine ⟨_, pss_cons (ps_if (PW.pt (pw_or (pt_not (pt_val (pe_callB call_isi (by rfl) B.isinstance (by decide +kernel) (pa_cons (pv 2) (pa_cons (pe_bltn (v := .ty "tuple") (by rfl) B.tuple (by decide +kernel) rfl) pa_nil)))))
          (pw_or1 (pt_cmpR op_ne (pe_callB call_len_seq (by rfl) B.len PySem.boot_len (pa_cons (pv 2) pa_nil)) pe_int (nomark _))))) (pss_one ps_never) pss_nil)
      (pss_cons (ps_if (PW.pt (pw_or (pt_not (pt_val (pe_def DI hr rfl (pa_cons (pe_ix ix_tup (pv 2) pe_int (fun _ _ => rfl)) pa_nil)))) (pw_or1 (pt_not (pt_chain op_le op_lt pe_int (pe_ix ix_tup (pv 2) pe_int (fun _ _ => rfl)) (pv 1)))))) (pss_one ps_never) pss_nil)
      (pss_cons (ps_if (PW.pt (pw_or (pt_not (pt_val (pe_callB call_isi (by rfl) B.isinstance (by decide +kernel) (pa_cons (pe_ix ix_tup (pv 2) pe_int (fun _ _ => rfl)) (pa_cons (pe_bltn (v := .ty "tuple") (by rfl) B.tuple (by decide +kernel) rfl) pa_nil)))))
          (pw_or1 (pt_cmpR (op_neD hr.units) (pe_lc (own := [("_law_item", 5)]) (g := gName 5) rfl sc_is_walk.nd (pi_tup (pe_ix ix_tup (pv 2) pe_int (fun _ _ => rfl))) (blkOk_by (N := n_is_walk) (sc := defScope s_is_walk) (by decide +kernel)) (fun _ _ _ _ _ => pg_name (i := 5) sc_is_walk.nd rfl (Or.inl rfl))
            (fun _ _ _ _ _ => by exact (pts_one (pt_not (pt_val (pe_def DI hr rfl (pa_cons (pv 5) pa_nil)))))) (fun _ _ _ _ _ => pe_int)) (pe_lst pa_nil) (nomark _))))) (pss_one ps_never) pss_nil)
      (pss_cons (ps_if (PW.pt (pw_or (pt_not (pt_val (pe_callB call_isi (by rfl) B.isinstance (by decide +kernel) (pa_cons (pe_ix ix_tup (pv 2) pe_int (fun _ _ => rfl)) (pa_cons (pe_bltn (v := .ty "tuple") (by rfl) B.tuple (by decide +kernel) rfl) pa_nil)))))
          (pw_or1 (pt_cmpR op_ne (pe_callB call_len_seq (by rfl) B.len PySem.boot_len (pa_cons (pe_ix ix_tup (pv 2) pe_int (fun _ _ => rfl)) pa_nil)) (pe_op op_add (pe_callB call_len_seq (by rfl) B.len PySem.boot_len (pa_cons (pe_ix ix_tup (pv 2) pe_int (fun _ _ => rfl)) pa_nil)) pe_int) (nomark _))))) (pss_one ps_never) pss_nil)
      (pss_cons (ps_set (i := 3) sc_is_walk.nd rfl (Or.inl rfl) (pe_ix ix_tup (pv 2) pe_int (fun _ _ => rfl)))
      (pss_cons (ps_for PassesOwn.never rfl (pi_tup (pe_ix ix_tup (pv 2) pe_int (fun _ _ => rfl))) (pg_name (i := 4) sc_is_walk.nd rfl (Or.inl rfl))
        (pss_cons (ps_if (PW.pt (pw_or (pt_not (pt_val (pe_callB call_isi (by rfl) B.isinstance (by decide +kernel) (pa_cons (pv 4) (pa_cons (pe_bltn (v := .ty "tuple") (by rfl) B.tuple (by decide +kernel) rfl) pa_nil)))))
            (pw_or (pt_cmpR op_ne (pe_callB call_len_seq (by rfl) B.len PySem.boot_len (pa_cons (pv 4) pa_nil)) pe_int (nomark _))
            (pw_or (pt_not (pt_val (pe_def DI hr rfl (pa_cons (pe_ix ix_tup (pv 4) pe_int (fun _ _ => rfl)) pa_nil))))
            (pw_or1 (pt_not (pt_val (pe_def DI hr rfl (pa_cons (pe_ix ix_tup (pv 4) pe_int (fun _ _ => rfl)) pa_nil))))))))) (pss_one ps_never) pss_nil)
        (pss_cons (ps_if (PW.pt (pw_or (pt_not (pt_chain op_le op_lt pe_int (pe_ix ix_tup (pv 4) pe_int (fun _ _ => rfl)) (pe_callB call_len_seq (by rfl) B.len PySem.boot_len (pa_cons (pv 0) pa_nil))))
            (pw_or (pt_cmpR (notInS K) (pe_ix ix_tup (pv 4) pe_int (fun _ _ => rfl)) (pe_tup (pa_cons pe_int (pa_cons pe_int pa_nil))) (by rfl))
            (pw_or1 (pt_cmpR op_ne (pe_ix ix_tup (pe_def DG hr rfl (pa_cons (pv 0) (pa_cons (pv 4) pa_nil))) pe_int (fun _ _ => rfl)) (pv 3) (nomark _)))))) (pss_one ps_never) pss_nil)
        (pss_one (ps_set (i := 3) sc_is_walk.nd rfl (Or.inl rfl) (pe_ix ix_tup (pe_def DG hr rfl (pa_cons (pv 0) (pa_cons (pv 4) pa_nil))) pe_int (fun _ _ => rfl)))))))
      (pss_one (ps_ret pe_bl))))))), ?_⟩
    obtain ⟨Z, S, hq, hZ, hS⟩ := id hW
    have hR1 := hH.r1
    have hdl := hH.len
    obtain ⟨us, hus, hPu, hul⟩ := hS.len
    refine ⟨_, rfl, _, _, _, _, _, rfl, .ty _, .base (.tup hq), kit_tt, _, rfl, iteF ⟨_, rfl, q, _, rfl, .inr (SqT.of hq), rfl, _, rfl, iteF ?_⟩⟩
    refine ⟨_, rfl, q, _, _, _, rfl, rfl, SqT.of hq, rfl, .inl ⟨_, rfl, _, rfl, iteF ⟨_, rfl, q, _, _, _, rfl, rfl, SqT.of hq, rfl, _, _, rfl, rfl, _, rfl, ?_⟩⟩⟩
    refine if_true_of' rfl ⟨_, rfl, _, _, rfl, rfl, _, rfl, ?_⟩
    refine if_false_of' (by rw [decide_eq_true (show (0 : Int) < R by omega)]; rfl) ?_
    refine ⟨_, rfl, q, _, _, _, rfl, rfl, SqT.of hq, rfl, _, _, _, _, _, rfl, .ty _, .base (.tup hZ), kit_tt, _, rfl, iteF ?_⟩
    refine ⟨_, rfl, q, _, _, _, rfl, rfl, SqT.of hq, rfl, Z, rfl, ⟨_, SqT.of hZ⟩, fun L hL => lc_tup (K := K) (a := Z) (xs := List.replicate (ps.length + 1) (V.int 0)) (fun i H' => Same H H' ∧ H' L = some (.lst [])) ⟨same_upd hL, upd_same⟩ (fun i H' _ ⟨e, _⟩ => SqT.of (e _ _ hZ)) ?_ ?_⟩
    · rintro i x H1 hx ⟨e1, hl1⟩
      have hx2 : x = V.int 0 := List.eq_of_mem_replicate (List.mem_of_getElem? hx)
      subst hx2
      exact ⟨rfl, _, rfl, .inl ⟨_, rfl, _, rfl, if_false_of' rfl ⟨e1, hl1⟩⟩⟩
    rintro H1 ⟨e1, hl1⟩
    refine ⟨(by decide : 0 ≤ sizeLine), fun t5 ht5 => ?_⟩
    have e2 := same_upd (o := .lst []) ht5
    have g2 : (upd H1 t5 (.lst [])) t5 = some (.lst []) := upd_same
    have e12 := e1.trans e2
    have hl2 := e2 _ _ hl1
    generalize upd H1 t5 (.lst []) = H2 at e2 g2 e12 hl2 ⊢
    refine ⟨_, _, dp_nil hl2, dp_nil g2, rfl, rfl, _, rfl, if_false_of' rfl ?_⟩
    have hq2 := e12 _ _ hq
    have hZ2 := e12 _ _ hZ
    have hus2 := e12 _ _ hus
    refine ⟨_, rfl, q, _, _, _, rfl, rfl, SqT.of hq2, rfl, _, _, _, _, _, rfl, .ty _, .base (.tup hus2), kit_tt, _, rfl, iteF ?_⟩
    refine ⟨_, rfl, q, _, _, _, rfl, rfl, SqT.of hq2, rfl, Z, _, rfl, .inr (SqT.of hZ2), _, rfl, q, _, _, _, rfl, rfl, SqT.of hq2, rfl, S, _, rfl, .inr (SqT.of hus2), _, _, rfl, rfl, rfl, _, rfl, ?_⟩
    refine if_false_of' (by rw [List.length_replicate, hul]; simp) ?_
    refine ⟨_, rfl, q, _, _, _, rfl, rfl, SqT.of hq2, rfl, ?_⟩
    refine ⟨_, rfl, q, _, _, _, rfl, rfl, SqT.of hq2, rfl, S, rfl, ⟨_, SqT.of hus2⟩, for_tup (K := K) (a := S) (xs := us) (fun i σ H' => ∃ (here : Int) (v4 : Option V), σ = [some (.ref D), some (.int (R : Int)), some (.ref q), some (.int here), v4, none] ∧ Same H H' ∧ Path ds 0 here (ps.take i))
      ⟨0, none, rfl, e12, rfl⟩ (fun i σ H' _ ⟨_, _, _, e, _⟩ => SqT.of (e _ _ hus)) ?_ ?_⟩
    · rintro i x σ H3 hx ⟨here, v4, rfl, e3, hp3⟩
      obtain ⟨st, hst, a, rfl, ha⟩ := pair_at' hPu hx
      have ha3 := e3 _ _ ha
      obtain ⟨p1, p2⟩ := path_take hP hst
      have hn : here = (gate ds st).n := path_end hp3 p1
      have hok := path_ok hP st (List.mem_of_getElem? hst)
      obtain ⟨o1, o2, o3⟩ := id hok
      obtain ⟨vsD, hvD, hPD⟩ := hD.tk (tk_of e3)
      have hvl : vsD.length = ds.length := hPD.length
      refine ⟨_, rfl, _, _, _, _, _, rfl, .ty _, .base (.tup ha3), kit_tt, _, rfl, iteF ⟨_, rfl, a, _, rfl, .inr (SqT.of ha3), rfl, _, rfl, iteF ?_⟩⟩
      refine ⟨_, rfl, a, _, _, _, rfl, rfl, SqT.of ha3, rfl, .inl ⟨_, rfl, _, rfl, iteF ⟨_, rfl, a, _, _, _, rfl, rfl, SqT.of ha3, rfl, .inl ⟨_, rfl, _, rfl, iteF ?_⟩⟩⟩⟩
      refine ⟨_, rfl, a, _, _, _, rfl, rfl, SqT.of ha3, rfl, _, _, rfl, rfl, _, rfl, ?_⟩
      refine if_true_of' (decide_eq_true o1) ⟨_, rfl, D, _, rfl, .inr (SqT.of hvD), _, _, rfl, rfl, _, rfl, ?_⟩
      refine if_false_of' (by rw [decide_eq_true (show st.1 < (vsD.length : Int) by omega)]; rfl) ?_
      refine ⟨_, rfl, a, _, _, _, rfl, rfl, SqT.of ha3, rfl, (by decide : 2 ≤ sizeLine), fun t6 ht6 => ?_⟩
      have e6 := same_upd (o := .tup [V.int 0, V.int 1]) ht6
      have g6 : (upd H3 t6 (.tup [V.int 0, V.int 1])) t6 = some (.tup [V.int 0, V.int 1]) := upd_same
      have e36 := e3.trans e6
      generalize upd H3 t6 (.tup [V.int 0, V.int 1]) = H6 at e6 g6 e36 ⊢
      have in01 : inV (.int st.2) [.int 0, .int 1] = true := by rcases o3 with z | z <;> rw [z] <;> rfl
      refine ⟨t6, _, rfl, .inr (SqT.of g6), rfl, rfl, _, rfl, ?_⟩
      refine if_false_of' (by show (!inV (.int st.2) [.int 0, .int 1]) = false; rw [in01]; rfl) ?_
      refine ⟨_, rfl, _, rfl, D, a, ds, st, rfl, hD.tk (tk_of e36), e36 _ _ ha, hok, fun g hg => ?_⟩
      have e7 := same_upd (o := .tup (doorV (gate ds st))) hg
      have g7 : (upd H6 g (.tup (doorV (gate ds st)))) g = some (.tup (doorV (gate ds st))) := upd_same
      have e37 := e36.trans e7
      generalize upd H6 g (.tup (doorV (gate ds st))) = H7 at e7 g7 e37 ⊢
      refine ⟨g, _, _, _, rfl, rfl, SqT.of g7, rfl, _, rfl, rfl, _, rfl, ?_⟩
      refine if_false_of' (by rw [hn]; simp) ?_
      refine ⟨_, rfl, _, rfl, D, a, ds, st, rfl, hD.tk (tk_of e37), e37 _ _ ha, hok, fun g hg => ?_⟩
      have e8 := same_upd (o := .tup (doorV (gate ds st))) hg
      exact ⟨g, _, _, _, rfl, rfl, SqT.of upd_same, rfl, (gate ds st).r, _, rfl, e37.trans e8, p2⟩
    · rintro σ H3 ⟨here, v4, rfl, e3, hp3⟩
      exact k _ e3
theorem ok_is_bare (F : Fun K "_law_is_bare_round" "_law_is_bare_round" s_is_bare_round f fd) (DW : DefAt P w K mg base CX0 2 "_law_is_walk" a_is_walk spIsWalk) (DE : DefAt P w K mg base CX0 2 "_law_end" a_end spEnd) : FnOk P w K mg base CX0 3 f fd a_is_bare_round spIsBare := by
  refine F.ok sc_is_bare_round (fun vs H Q E h => ?_) (fun cdv A outer s H vs Q E hr h => ?_)
  · obtain ⟨D, q, R, ds, ps, rfl, _⟩ := h
    rfl
  · obtain ⟨D, q, R, ds, ps, rfl, hD, hH, hW, hP, hpl, k⟩ := h
    refine ⟨_, pss_cons (ps_if (PW.pt (pw_or (pt_not (pt_val (pe_def DW hr rfl (pa_cons (pv 1) (pa_cons (pv 0) (pa_cons (pv 2) pa_nil)))))) (pw_or1 (pt_cmpR (op_neD hr.units)
        (pe_lc (own := [("_law_item", 3)]) (g := gName 3) rfl sc_is_bare_round.nd (pi_tup (pe_ix ix_tup (pv 2) pe_int (fun _ _ => rfl))) (blkOk_by (N := n_is_bare_round) (sc := defScope s_is_bare_round) (by decide +kernel)) (fun _ _ _ _ _ => pg_name (i := 3) sc_is_bare_round.nd rfl (Or.inl rfl))
            (fun _ _ _ _ _ => by exact (pts_one (pt_cmpR op_ne (pv 3) pe_int (nomark _)))) (fun _ _ _ _ _ => pe_int)) (pe_lst pa_nil) (nomark _))))) (pss_one ps_never) pss_nil)
      (pss_one (ps_ret (pe_cmpR op_eq (pe_def DE hr rfl (pa_cons (pv 1) (pa_cons (pv 2) pa_nil))) (pe_ix ix_tup (pv 2) pe_int (fun _ _ => rfl)) (nomark _)))), ?_⟩
    obtain ⟨Z, S, hq, hZ, hS⟩ := id hW
    refine ⟨_, rfl, _, rfl, _, rfl, D, q, R, ds, ps, rfl, hD, hH, hW, hP, hpl, fun H0 e0 => ⟨_, rfl, iteF ?_⟩⟩
    have hq0 := e0 _ _ hq
    have hZ0 := e0 _ _ hZ
    refine ⟨_, rfl, q, _, _, _, rfl, rfl, SqT.of hq0, rfl, Z, rfl, ⟨_, SqT.of hZ0⟩, fun L hL => lc_tup (K := K) (a := Z) (xs := List.replicate (ps.length + 1) (V.int 0)) (fun i H' => Same H0 H' ∧ H' L = some (.lst [])) ⟨same_upd hL, upd_same⟩ (fun i H' _ ⟨e, _⟩ => SqT.of (e _ _ hZ0)) ?_ ?_⟩
    · rintro i x H1 hx ⟨e1, hl1⟩
      have hx2 : x = V.int 0 := List.eq_of_mem_replicate (List.mem_of_getElem? hx)
      subst hx2
      exact ⟨rfl, _, rfl, rfl, _, rfl, if_false_of' rfl ⟨e1, hl1⟩⟩
    rintro H1 ⟨e1, hl1⟩
    refine ⟨(by decide : 0 ≤ sizeLine), fun t5 ht5 => ?_⟩
    have e2 := same_upd (o := .lst []) ht5
    have g2 : (upd H1 t5 (.lst [])) t5 = some (.lst []) := upd_same
    have e12 := (e0.trans e1).trans e2
    have hl2 := e2 _ _ hl1
    generalize upd H1 t5 (.lst []) = H2 at e2 g2 e12 hl2 ⊢
    refine ⟨_, _, dp_nil hl2, dp_nil g2, rfl, rfl, _, rfl, if_false_of' rfl ?_⟩
    refine ⟨_, rfl, _, rfl, D, q, R, ds, ps, rfl, hD.tk (tk_of e12), hH, hW.tk (tk_of e12), hP, fun H3 e3 => ?_⟩
    exact ⟨_, rfl, q, _, _, _, rfl, rfl, SqT.of (e3 _ _ (e12 _ _ hq)), rfl, rfl, k _ (e12.trans e3)⟩
end
end K19

set_option Elab.async false
set_option linter.all false
set_option maxRecDepth 100000
set_option maxHeartbeats 4000000
/-! The law's look at signs, its rounds, what is no house. -/
namespace K19
open PySem L2

def spLawAre (K : PySem.W.Frag) : Sp := fun vs H Q _ => ∃ (D : Addr) (v : V) (R : Nat) (ds : List Dr), vs = [.int (R : Int), .ref D, v] ∧ IsDoors H D ds ∧ House R ds ∧
  ((NoTup K H v ∧ Q (.bl false) H) ∨ ∃ (a : Addr) (xs : List V), v = .ref a ∧ H a = some (.tup xs) ∧ (∀ x ∈ xs, IB x) ∧ xs.length ≤ 100 ∧ ∀ (H' : Hp) (b : Bool), Same H H' → (b = true ↔ Right R ds xs) → Q (.bl b) H')
def spRound : Sp := fun vs H Q _ => ∃ (d g c D : Addr) (n R : Nat) (ds : List Dr) (r : Int), vs = [.ref d, .ref D, .int r, .int 10] ∧ StAt d g c n H ∧ n + 20 ≤ 1000000 ∧ IsDoors H D ds ∧ House R ds ∧ 0 ≤ r ∧ r < R ∧
  ∀ (H' : Hp) (q : Addr) (ps : List Stp), Kp d g H H' → StAt d g c (n + 20) H' → IsStps H' q ps → Path ds r r ps → ps.length ≤ 20 → Q (.ref q) H'
/-- what the written part says of types and House -/
structure KTy (K : PySem.W.Frag) (C : Addr) : Prop where
  non : PySem.W.kitOne K (.type "NoneType") (.ref C) = some false
  int : PySem.W.kitOne K (.type "int") (.ref C) = some false
  bl : PySem.W.kitOne K (.type "bool") (.ref C) = some false
  str : PySem.W.kitOne K (.type "str") (.ref C) = some false
  lst : PySem.W.kitOne K (.type "list") (.ref C) = some false
  tup : PySem.W.kitOne K (.type "tuple") (.ref C) = some false
  dic : PySem.W.kitOne K (.type "dict") (.ref C) = some false
def spBadHouse (K : PySem.W.Frag) (C : Addr) : Sp := fun vs H Q _ => ∃ (d g c : Addr) (n : Nat), vs = [.ref d] ∧ StAt d g c n H ∧ n + 1 ≤ 1000000 ∧
  ∀ (H' : Hp) (v : V), Kp d g H H' → StAt d g c (n + 1) H' → NoHouse K C H' v → Q v H'
theorem ones_nil {us : List Int} : PyData.eqvAll (us.map PyData.int) [] = us.isEmpty := eqvAll_nil us

section
variable {P : Program} {w : World} {K : PySem.W.Frag} {mg : Str → Option Value} {base : Heap} {f C : Addr} {fd : FuncData}
theorem ok_law_are (F : Fun K "_law_are_signs" "_law_are_signs" s_are_signs f fd) (B : Blt mg) (DI : DefAt P w K mg base CX0 1 "_law_is_whole" a_is_whole spWhole) : FnOk P w K mg base CX0 2 f fd a_are_signs (spLawAre K) := by
  refine F.ok sc_are_signs (fun vs H Q E h => ?_) (fun cdv A outer s H vs Q E hr h => ?_)
  · obtain ⟨D, v, R, ds, rfl, _⟩ := h
    rfl
  · obtain ⟨D, v, R, ds, rfl, hI, hH, hv⟩ := h
    refine ⟨_, pss_cons (ps_if (PW.pt (pw_or (pt_not (pt_val (pe_callB call_isi (by rfl) B.isinstance (by decide +kernel) (pa_cons (pv 2) (pa_cons (pe_bltn (v := .ty "tuple") (by rfl) B.tuple (by decide +kernel) rfl) pa_nil)))))
          (pw_or1 (pt_cmpR op_ne (pe_callB call_len_seq (by rfl) B.len PySem.boot_len (pa_cons (pv 2) pa_nil)) (pv 0) (nomark _))))) (pss_one (ps_ret pe_bl)) pss_nil)
      (pss_cons (ps_if (pt_cmpR (op_neD hr.units) (pe_lc (own := [("_law_item", 3)]) (g := gName 3) rfl sc_are_signs.nd (pi_tup (pv 2)) (blkOk_by (N := n_are_signs) (sc := defScope s_are_signs) (by decide +kernel)) (fun _ _ _ _ _ => pg_name (i := 3) sc_are_signs.nd rfl (Or.inl rfl))
            (fun _ _ _ _ _ => by exact (pts_one (PW.pt (pw_or (pt_not (pt_val (pe_def DI hr rfl (pa_cons (pv 3) pa_nil)))) (pw_or1 (pt_cmpR (notInS K) (pv 3) (pe_tup (pa_cons pe_int (pa_cons (pe_un un_neg pe_int) pa_nil))) (by rfl)))))))
            (fun _ _ _ _ _ => pe_int)) (pe_lst pa_nil) (nomark _)) (pss_one (ps_ret pe_bl)) pss_nil)
      (pss_one (ps_ret (pe_cmpR (op_eqD hr.units) (pe_lc (own := [("_law_near", 4), ("_law_first", 5), ("_law_far", 6), ("_law_second", 7)]) rfl sc_are_signs.nd (pi_tup (pv 1)) (blkOk_by (N := n_are_signs) (sc := defScope s_are_signs) (by decide +kernel))
            (fun _ _ _ _ _ => by exact (pgT K (n := 4) (pg_tup rfl (pgs_cons (pg_name (i := 4) sc_are_signs.nd rfl (Or.inl rfl)) (pgs_cons (pg_name (i := 5) sc_are_signs.nd rfl (Or.inl rfl)) (pgs_cons (pg_name (i := 6) sc_are_signs.nd rfl (Or.inl rfl)) (pgs_cons (pg_name (i := 7) sc_are_signs.nd rfl (Or.inl rfl)) pgs_nil)))))))
            (fun _ _ _ _ _ => by exact (pts_one (pt_cmpR op_lt (pe_op op_mul (pe_op op_mul (pe_op op_mul (pv 5) (pe_ix (ixT K) (pv 2) (pv 4) (fun _ _ => rfl))) (pv 7)) (pe_ix (ixT K) (pv 2) (pv 6) (fun _ _ => rfl))) pe_int (nomark _))))
            (fun _ _ _ _ _ => pe_int)) (pe_lst pa_nil) (nomark _))))), ?_⟩
    obtain ⟨vs, hD, hP⟩ := id hI
    have hvl : vs.length = ds.length := hP.length
    have hlen := hH.len
    rcases hv with ⟨⟨t, ht, hk⟩, k⟩ | ⟨a, xs, rfl, ha, hib, hxl, k⟩
    · exact ⟨_, rfl, _, _, _, _, _, rfl, .ty _, ht, hk, _, rfl, iteT k⟩
    refine ⟨_, rfl, _, _, _, _, _, rfl, .ty _, .base (.tup ha), kit_tt, _, rfl, iteF ⟨_, rfl, a, _, rfl, .inr (SqT.of ha), _, rfl, rfl, _, rfl, ?_⟩⟩
    refine ite2 (fun c => ?_) (fun c => ?_)
    · refine k H false (Same.refl H) ⟨fun z => Bool.noConfusion z, fun z => ?_⟩
      exfalso
      obtain ⟨ns, e, hl, _⟩ := z
      rw [e, List.length_map, hl] at c
      simp at c
    have hxR : xs.length = R := by
      have c2 : ¬ (V.int (xs.length : Int) ≠ V.int (R : Int)) := fun z => c (by simpa using z)
      have c3 : V.int (xs.length : Int) = V.int (R : Int) := Classical.not_not.mp c2
      have := V.int.inj c3
      omega
    refine ⟨_, rfl, a, rfl, ⟨_, SqT.of ha⟩, fun L hL => lc_tup (K := K) (a := a) (xs := xs) (fun i H' => Same H H' ∧ ∃ us : List Int, H' L = some (.lst (us.map V.int)) ∧ us.length ≤ i ∧ us.isEmpty = (xs.take i).all sgV) ⟨same_upd hL, [], upd_same, Nat.le_refl _, rfl⟩ (fun i H' _ ⟨e, _⟩ => SqT.of (e _ _ ha)) ?_ ?_⟩
    · rintro i x H2 hx ⟨e2, us, hl, hul, hus⟩
      have hi : i < xs.length := (List.getElem?_eq_some_iff.mp hx).1
      have hll : (us.map V.int).length < sizeLine := small_line (by rw [List.length_map]; omega)
      have good : sgV x = true → us.isEmpty = (xs.take (i + 1)).all sgV := fun z => by
        rw [take_more hx, List.all_append, hus]
        simp [z]
      have bad : sgV x = false → (us ++ [(1 : Int)]).isEmpty = (xs.take (i + 1)).all sgV := fun z => by
        rw [take_more hx, List.all_append]
        simp [z]
      have em : us.map V.int ++ [V.int 1] = (us ++ [(1 : Int)]).map V.int := by rw [List.map_append]; rfl
      rcases hib x (List.mem_of_getElem? hx) with ⟨z, rfl⟩ | ⟨z, rfl⟩
      · refine ⟨rfl, _, rfl, .inl ⟨_, rfl, _, rfl, iteF ⟨_, rfl, _, rfl, (by decide : 2 ≤ sizeLine), fun t ht => ?_⟩⟩⟩
        have e3 := same_upd (o := .tup [V.int 1, V.int (-1)]) ht
        have g3 : (upd H2 t (.tup [V.int 1, V.int (-1)])) t = some (.tup [V.int 1, V.int (-1)]) := upd_same
        refine ⟨t, _, rfl, .inr (SqT.of g3), rfl, rfl, _, rfl, ?_⟩
        show if (!inV (.int z) [.int 1, .int (-1)]) = true then _ else _
        rw [inV_sg]
        cases hz : decide (z = 1 ∨ z = -1) with
        | true => exact iteF ⟨e2.trans e3, us, e3 _ _ hl, by omega, good hz⟩
        | false =>
          refine iteT ⟨_, e3 _ _ hl, hll, same_write (e2.trans e3) hL, us ++ [1], ?_, by rw [List.length_append, List.length_singleton]; omega, bad hz⟩
          rw [upd_same, em]
      · refine ⟨rfl, _, rfl, .inr ⟨_, rfl, _, rfl, iteT (if_true_of' rfl ⟨_, hl, hll, same_write e2 hL, us ++ [1], ?_, by rw [List.length_append, List.length_singleton]; omega, bad rfl⟩)⟩⟩
        rw [upd_same, em]
    rintro H2 ⟨e2, us, hl, hul, hus⟩
    rw [List.take_length] at hus
    refine ⟨(by decide : 0 ≤ sizeLine), fun t5 ht5 => ?_⟩
    have e3 := same_upd (o := .lst []) ht5
    have g3 : (upd H2 t5 (.lst [])) t5 = some (.lst []) := upd_same
    have e23 := e2.trans e3
    have hl3 := e3 _ _ hl
    generalize upd H2 t5 (.lst []) = H3 at e3 g3 e23 hl3 ⊢
    refine ⟨_, _, dp_list hl3, dp_nil g3, shaped_list _, rfl, _, rfl, ?_⟩
    show if (!PyData.eqvAll (us.map PyData.int) []) = true then _ else _
    rw [ones_nil, hus]
    cases hsg : xs.all sgV with
    | false =>
      refine iteT (k H3 false e23 ⟨fun z => Bool.noConfusion z, fun z => ?_⟩)
      exfalso
      obtain ⟨ns, e, _, hn, _⟩ := z
      rw [e, sgs_all hn] at hsg
      cases hsg
    | true =>
      refine iteF ?_
      obtain ⟨ns, rfl, hn⟩ := sgs_ints hsg
      rw [List.length_map] at hxR
      have hD3 := e23 _ _ hD
      refine ⟨_, rfl, D, rfl, ⟨_, SqT.of hD3⟩, fun L2 hL2 => lc_tup (K := K) (a := D) (xs := vs) (fun i H' => Same H3 H' ∧ ∃ us : List Int, H' L2 = some (.lst (us.map V.int)) ∧ us.length ≤ i ∧ (us.isEmpty = true ↔ ∀ d ∈ ds.take i, 0 < d.f * d.s * ns.getD d.n.toNat 0 * ns.getD d.r.toNat 0)) ⟨same_upd hL2, [], upd_same, Nat.le_refl _, ⟨fun _ d hd => by simp at hd, fun _ => rfl⟩⟩ (fun i H' _ ⟨e, _⟩ => SqT.of (e _ _ hD3)) ?_ ?_⟩
      · rintro i x H4 hx ⟨e4, us2, hl4, hul4, hus4⟩
        obtain ⟨d, hd, a1, rfl, ha1⟩ := pair_at' hP hx
        have hi := (List.getElem?_eq_some_iff.mp hd).1
        obtain ⟨d1, d2, d3, d4, d5, d6, d7, d8, d9, d10⟩ := hH.ok d (List.mem_of_getElem? hd)
        have hp1 := getD_pm hn (i := d.n.toNat) (by omega)
        have hp2 := getD_pm hn (i := d.r.toNat) (by omega)
        have e24 := e23.trans e4
        have hmem : ∀ Pr : Dr → Prop, (∀ d' ∈ ds.take (i + 1), Pr d') ↔ (∀ d' ∈ ds.take i, Pr d') ∧ Pr d := fun Pr => by
          rw [take_more hd]
          constructor
          · exact fun z => ⟨fun d' h' => z d' (List.mem_append_left _ h'), z d (List.mem_append_right _ List.mem_cons_self)⟩
          · rintro ⟨z1, z2⟩ d' h'
            rcases List.mem_append.mp h' with q | q
            · exact z1 d' q
            · rw [List.mem_singleton.mp q]
              exact z2
        refine ⟨a1, _, rfl, SqT.of (e24 _ _ ha1), rfl, ⟨_, _, rfl, _, _, rfl, _, _, rfl, _, _, rfl, rfl, rfl, ?_⟩⟩
        refine ⟨_, rfl, _, rfl, _, rfl, a, _, _, _, rfl, rfl, SqT.of (e24 _ _ ha), atI_map d1 (by omega), _, _, rfl, rfl, .inr ?_, _, rfl, _, _, rfl, rfl, .inr ⟨by omega, by omega⟩, _, rfl, _, rfl, a, _, _, _, rfl, rfl, SqT.of (e24 _ _ ha), atI_map d3 (by omega), _, _, rfl, rfl, .inr ?_, _, _, rfl, rfl, _, rfl, ?_⟩
        · rcases hp1 with q | q <;> rw [q] <;> exact ⟨by decide, by decide⟩
        · rcases hp2 with q | q <;> rw [q] <;> exact ⟨by decide, by decide⟩
        have epr : d.f * ns.getD d.n.toNat 0 * d.s * ns.getD d.r.toNat 0 = d.f * d.s * ns.getD d.n.toNat 0 * ns.getD d.r.toNat 0 := by
          rw [Int.mul_assoc d.f, Int.mul_comm (ns.getD d.n.toNat 0), ← Int.mul_assoc]
        have hnz : d.f * d.s * ns.getD d.n.toNat 0 * ns.getD d.r.toNat 0 ≠ 0 := by
          have n1 : ns.getD d.n.toNat 0 ≠ 0 := by rcases hp1 with q | q <;> rw [q] <;> decide
          have n2 : ns.getD d.r.toNat 0 ≠ 0 := by rcases hp2 with q | q <;> rw [q] <;> decide
          exact Int.mul_ne_zero (Int.mul_ne_zero (Int.mul_ne_zero d5 d6) n1) n2
        refine ite2 (fun c => ?_) (fun c => ?_)
        · have c2 : d.f * ns.getD d.n.toNat 0 * d.s * ns.getD d.r.toNat 0 < 0 := of_decide_eq_true c
          rw [epr] at c2
          refine ⟨_, hl4, small_line (by rw [List.length_map]; omega), same_write e4 hL2, us2 ++ [1], ?_, by rw [List.length_append, List.length_singleton]; omega, ⟨fun z => by simp at z, fun z => ?_⟩⟩
          · rw [upd_same, List.map_append]
            rfl
          · have := ((hmem _).mp z).2
            omega
        · have c2 : ¬ d.f * ns.getD d.n.toNat 0 * d.s * ns.getD d.r.toNat 0 < 0 := fun z => c (decide_eq_true z)
          rw [epr] at c2
          exact ⟨e4, us2, hl4, by omega, ⟨fun z => (hmem _).mpr ⟨hus4.mp z, by omega⟩, fun z => hus4.mpr ((hmem _).mp z).1⟩⟩
      · rintro H4 ⟨e4, us2, hl4, hul4, hus4⟩
        rw [hvl, List.take_length] at hus4
        refine ⟨(by decide : 0 ≤ sizeLine), fun t6 ht6 => ?_⟩
        have e5 := same_upd (o := .lst []) ht6
        have g5 : (upd H4 t6 (.lst [])) t6 = some (.lst []) := upd_same
        refine ⟨_, _, dp_list (e5 _ _ hl4), dp_nil g5, shaped_list _, rfl, ?_⟩
        show Q (.bl (PyData.eqvAll (us2.map PyData.int) [])) _
        rw [ones_nil]
        refine k _ _ ((e23.trans e4).trans e5) ⟨fun z => ⟨ns, rfl, hxR, hn, hus4.mp z⟩, fun z => hus4.mpr ?_⟩
        obtain ⟨ns', en, _, _, hd⟩ := z
        have : ns = ns' := by
          have inj : ∀ {l m : List Int}, l.map V.int = m.map V.int → l = m := fun {l} => by
            induction l with
            | nil => intro m h; cases m with
              | nil => rfl
              | cons a m => cases h
            | cons a l ih => intro m h; cases m with
              | nil => cases h
              | cons b m =>
                injection h with h1 h2
                rw [V.int.inj h1, ih h2]
          exact inj en
        subst this
        exact hd
end
end K19

set_option Elab.async false
set_option linter.all false
set_option maxRecDepth 100000
set_option maxHeartbeats 4000000
/-! The law's rounds, what is no house. -/
namespace K19
open PySem L2

theorem stable_stp : Stable IsStp := fun _ _ _ _ h k => h.tk k
section
variable {P : Program} {w : World} {K : PySem.W.Frag} {mg : Str → Option Value} {base : Heap} {f C : Addr} {fd : FuncData}
theorem ok_round (F : Fun K "_law_round" "_law_round" s_round f fd) (B : Blt mg) (DD : DefAt P w K mg base CX0 2 "_law_draw" a_draw spDraw) (DS : DefAt P w K mg base CX0 2 "_law_steps" a_steps spSteps) (DP : DefAt P w K mg base CX0 3 "_law_pick" a_pick spPick) (DG : DefAt P w K mg base CX0 1 "_law_gate" a_gate spGate) (DW : DefAt P w K mg base CX0 3 "_law_way" a_way spWay) : FnOk P w K mg base CX0 4 f fd a_round spRound := by
  refine F.ok sc_round (fun vs H Q E h => ?_) (fun cdv A outer s H vs Q E hr h => ?_)
  · obtain ⟨d, g, c, D, n, R, ds, r, rfl, _⟩ := h
    rfl
  · obtain ⟨d, g, c, D, n, R, ds, r, rfl, hS, hn, hD, hH, r0, r1, k⟩ := h
    have hr1 : Room 1 _ := hr.mono (by decide)
    have hr2 : Room 2 _ := hr.mono (by decide)
    have hlen := hH.len
    refine ⟨_, pss_cons (ps_par (i := 4) (j := 5) (by rfl) sc_round.nd rfl rfl (by decide) rfl rfl (pa_cons (pv 2) (pa_cons (pe_lst pa_nil) pa_nil)) (by rfl))
      (pss_cons (ps_for PassesOwn.never rfl (pi_range1 rfl B.range (pa_cons (pe_def DD hr2 rfl (pa_cons (pv 0) (pa_cons (pe_op op_add (pv 3) pe_int) pa_nil))) pa_nil)) (pg_name (i := 6) sc_round.nd rfl (Or.inl rfl))
        (pss_cons (ps_set (i := 7) sc_round.nd rfl (Or.inl rfl) (pe_def DS hr2 rfl (pa_cons (pv 1) (pa_cons (pv 4) pa_nil))))
        (pss_one (ps_if (pt_cmpR (op_neD hr.units) (pv 7) (pe_lst pa_nil) (nomark _))
          (pss_cons (ps_set (i := 8) sc_round.nd rfl (Or.inl rfl) (pe_def DP hr rfl (pa_cons (pv 0) (pa_cons (pv 7) pa_nil))))
          (pss_cons (ps_expr (pe_bm PySem.F.plainAttrs_list PySem.F.slot_list_append PySem.F.type_list_append mt_append (pv 5) (pa_cons (pv 8) pa_nil)))
          (pss_one (ps_set (i := 4) sc_round.nd rfl (Or.inl rfl) (pe_ix ix_tup (pe_def DG hr1 rfl (pa_cons (pv 1) (pa_cons (pv 8) pa_nil))) pe_int (fun _ _ => rfl))))))
          pss_nil))))
      (pss_one (ps_ret (pe_op op_catA (pe_callTy call_tuple_of (by rfl) B.tuple (by decide +kernel) (pa_cons (pv 5) pa_nil)) (pe_def DW hr rfl (pa_cons (pv 1) (pa_cons (pv 4) (pa_cons (pv 2) pa_nil)))))))), ?_⟩
    refine ⟨_, rfl, (by decide : 0 ≤ sizeLine), fun L hL => ?_⟩
    obtain ⟨Ld, Lg⟩ := hS.ned hL
    have Lc := hS.nec hL
    have e1 := same_upd (o := .lst []) hL
    have G0 : GSt IsStp d g c n L H (upd H L (.lst [])) [] [] := ⟨kp_of e1, hS.same e1, upd_same, .nil⟩
    generalize upd H L (.lst []) = H1 at G0 ⊢
    refine ⟨_, _, rfl, ?_⟩
    refine ⟨_, rfl, _, rfl, _, _, rfl, rfl, d, g, c, _, _, rfl, G0.st, by omega, by decide, by decide, fun H2 z K2 S2 z0 z1 => ?_⟩
    have G2 := G0.draw stable_stp Ld Lg K2 S2
    have z1 : z < 11 := z1
    refine ⟨_, rfl, by omega, by omega, for_range (lo := 0) (n := z.toNat) (fun i σ H' => ∃ (vs : List V) (ps : List Stp) (here : Int) (v6 v7 v8 : Option V), σ = [some (.ref d), some (.ref D), some (.int r), some (.int 10), some (.int here), some (.ref L), v6, v7, v8] ∧ GSt IsStp d g c (n + 1 + i) L H H' vs ps ∧ ps.length ≤ i ∧ Path ds r here ps ∧ 0 ≤ here ∧ here < R)
      ⟨[], [], r, none, none, none, rfl, G2, Nat.le_refl _, rfl, r0, r1⟩ ?_ ?_⟩
    · rintro i σ H3 hi ⟨vs, ps, here, v6, v7, v8, rfl, G3, hl, hP, h0, h1⟩
      have tk3 := hS.tk G3.kp
      have hvl : vs.length = ps.length := G3.pr.length
      refine ⟨_, rfl, _, rfl, D, ds, here, rfl, hD.tk tk3, by omega, fun H4 M ws e4 hM hM4 hPM => ?_⟩
      have G4 := G3.same stable_stp e4
      refine ⟨_, rfl, (by decide : 0 ≤ sizeLine), fun t5 ht5 => ?_⟩
      have e5 := same_upd (o := .lst []) ht5
      have g5 : (upd H4 t5 (.lst [])) t5 = some (.lst []) := upd_same
      have G5 := G4.same stable_stp e5
      have hM5 := e5 _ _ hM4
      have hP5 := stps_tk hPM (tk_of e5)
      generalize upd H4 t5 (.lst []) = H5 at e5 g5 G5 hM5 hP5 ⊢
      obtain ⟨dd, d1, d2, d3, d4⟩ := dp_tis (K := K) (H := H5) (xs := ws) fun x hx => by
        obtain ⟨j, hj, e⟩ := List.mem_iff_getElem.mp hx
        obtain ⟨st, _, hst⟩ := pair_at' hP5 (show ws[j]? = some x by rw [List.getElem?_eq_getElem hj, e])
        exact hst.ti
      refine ⟨_, _, .lst (SqL.of hM5) d1, dp_nil g5, (shaped_of d2 (by omega)).1, rfl, _, rfl, ?_⟩
      show if (!PyData.eqvAll dd []) = true then _ else _
      rw [d4]
      have hMg : M ≠ g := (G3.st.ned hM).2
      have hMd : M ≠ d := (G3.st.ned hM).1
      have hML : M ≠ L := (ne_of_none G3.ls hM).symm
      have hwl : ws.length ≤ 40 := by
        have e := hPM.length
        have := List.length_filter_le (fun p => decide ((gate ds p).n = here)) (allStps ds.length)
        have e2 : stepsFrom ds here = (allStps ds.length).filter fun p => decide ((gate ds p).n = here) := rfl
        rw [e2] at e
        rw [len_all] at this
        omega
      by_cases cw : ws = []
      · rw [cw]
        exact iteF ⟨vs, ps, here, _, _, _, rfl, G5.le (by omega), by omega, hP, h0, h1⟩
      · refine if_true_of' (by cases ws with
          | nil => exact absurd rfl cw
          | cons w ws => rfl) ?_
        refine ⟨_, rfl, _, rfl, d, g, c, M, _, ws, rfl, G5.st, by omega, hM5, hMg, cw, by omega, fun H6 x K6 S6 hx => ?_⟩
        have G6 := G5.draw stable_stp Ld Lg K6 S6
        obtain ⟨j, hj, ej⟩ := List.mem_iff_getElem.mp hx
        obtain ⟨st, hst, a, rfl, ha⟩ := pair_at' hP5 (show ws[j]? = some x by rw [List.getElem?_eq_getElem hj, ej])
        have ha6 := (G5.st.tk K6).1 _ _ ha
        obtain ⟨hok, hgn⟩ := mem_steps.mp (List.mem_of_getElem? hst)
        refine ⟨_, rfl, .inl ⟨rfl, _, SqL.of G6.ls⟩, _, rfl, L, vs, _, rfl, rfl, G6.ls, small_line (by omega), ?_⟩
        have G7 := G6.push stable_stp hL Lg Lc (v := .ref a) (x := st) ⟨a, rfl, ha6⟩
        have tkw := tk_lst (o := .lst (vs ++ [V.ref a])) G6.ls
        have ha7 := tkw.1 _ _ ha6
        have hD7 := hD.tk (hS.tk G7.kp)
        generalize upd H6 L (.lst (vs ++ [V.ref a])) = H7 at G7 ha7 hD7 ⊢
        refine ⟨_, rfl, _, rfl, D, a, ds, st, rfl, hD7, ha7, hok, fun q hq => ?_⟩
        have e8 := same_upd (o := .tup (doorV (gate ds st))) hq
        have hgo := gate_ok hH.ok hok
        refine ⟨q, _, _, _, rfl, rfl, SqT.of upd_same, rfl, vs ++ [V.ref a], ps ++ [st], (gate ds st).r, _, _, _, rfl, (G7.same stable_stp e8).le (by omega), by rw [List.length_append, List.length_singleton]; omega, path_snoc hok (by rw [hgn]; exact hP), hgo.2.2.1, hgo.2.2.2.1⟩
    · rintro σ H3 ⟨vs, ps, here, v6, v7, v8, rfl, G3, hl, hP, h0, h1⟩
      have hvl : vs.length = ps.length := G3.pr.length
      refine ⟨_, rfl, L, vs, rfl, .inl ⟨SqL.of G3.ls, fun t4 ht4 => ?_⟩⟩
      have e4 := same_upd (o := .tup vs) ht4
      have G4 := G3.same stable_stp e4
      have hS4 : IsStps (upd H3 t4 (.tup vs)) t4 ps := ⟨vs, upd_same, G4.pr⟩
      generalize upd H3 t4 (.tup vs) = H4 at e4 G4 hS4 ⊢
      refine ⟨_, rfl, _, rfl, _, rfl, D, ds, R, here, r, rfl, hD.tk (hS.tk G4.kp), hH, h0, h1, r0, r1, fun H5 q qs e5 hq hPq hql => ?_⟩
      refine cat_stps (hS4.tk (tk_of e5)) hq (by omega) fun H6 q2 e6 hq2 => ?_
      exact k H6 q2 (ps ++ qs) (G4.kp.trans (kp_of (e5.trans e6))) ((G4.st.same (e5.trans e6)).le (by omega)) hq2 (path_app hPq hP) (by rw [List.length_append]; omega)
theorem ok_bad_house (F : Fun K "_law_bad_house" "_law_bad_house" s_bad_house f fd) (T : KTy K C) (DP : DefAt P w K mg base CX0 3 "_law_pick" a_pick spPick) : FnOk P w K mg base CX0 4 f fd a_bad_house (spBadHouse K C) := by
  refine F.ok sc_bad_house (fun vs H Q E h => ?_) (fun cdv A outer s H vs Q E hr h => ?_)
  · obtain ⟨d, g, c, n, rfl, _⟩ := h
    rfl
  · obtain ⟨d, g, c, n, rfl, hS, hn, k⟩ := h
    refine ⟨_, pss_one (ps_ret (pe_def DP hr rfl (pa_cons (pv 0) (pa_cons (pe_lst (pa_cons pe_non (pa_cons pe_int (pa_cons (pe_tup (pa_cons pe_int (pa_cons (pe_tup pa_nil) pa_nil))) (pa_cons pe_str (pa_cons (pe_lst pa_nil) (pa_cons pe_dnewK (pa_cons pe_bl (pa_cons (pe_tup (pa_cons pe_int (pa_cons (pe_tup (pa_cons (pe_tup (pa_cons pe_int (pa_cons pe_int (pa_cons pe_int (pa_cons pe_int pa_nil))))) pa_nil)) pa_nil))) pa_nil))))))))) pa_nil)))), ?_⟩
    refine ⟨_, rfl, (by decide : 0 ≤ sizeLine), fun t1 ht1 => ?_⟩
    have e1 := same_upd (o := .tup []) ht1
    generalize upd H t1 (.tup []) = H1 at e1 ⊢
    refine ⟨(by decide : 2 ≤ sizeLine), fun t2 ht2 => ?_⟩
    have e2 := same_upd (o := .tup [V.int 1, V.ref t1]) ht2
    have g2 : (upd H1 t2 (.tup [V.int 1, V.ref t1])) t2 = some (.tup [V.int 1, V.ref t1]) := upd_same
    generalize upd H1 t2 (.tup [V.int 1, V.ref t1]) = H2 at e2 g2 ⊢
    refine ⟨(by decide : 0 ≤ sizeLine), fun t3 ht3 => ?_⟩
    have e3 := same_upd (o := .lst []) ht3
    have g3 : (upd H2 t3 (.lst [])) t3 = some (.lst []) := upd_same
    generalize upd H2 t3 (.lst []) = H3 at e3 g3 ⊢
    refine fun t4 ht4 => ?_
    have e4 := same_upd (o := .dK []) ht4
    have g4 : (upd H3 t4 (.dK [])) t4 = some (.dK []) := upd_same
    generalize upd H3 t4 (.dK []) = H4 at e4 g4 ⊢
    refine ⟨(by decide : 4 ≤ sizeLine), fun t5 ht5 => ?_⟩
    have e5 := same_upd (o := .tup [V.int 0, V.int 2, V.int 0, V.int 3]) ht5
    generalize upd H4 t5 (.tup [V.int 0, V.int 2, V.int 0, V.int 3]) = H5 at e5 ⊢
    refine ⟨(by decide : 1 ≤ sizeLine), fun t6 ht6 => ?_⟩
    have e6 := same_upd (o := .tup [V.ref t5]) ht6
    generalize upd H5 t6 (.tup [V.ref t5]) = H6 at e6 ⊢
    refine ⟨(by decide : 2 ≤ sizeLine), fun t7 ht7 => ?_⟩
    have e7 := same_upd (o := .tup [V.int 1, V.ref t6]) ht7
    have g7 : (upd H6 t7 (.tup [V.int 1, V.ref t6])) t7 = some (.tup [V.int 1, V.ref t6]) := upd_same
    generalize upd H6 t7 (.tup [V.int 1, V.ref t6]) = H7 at e7 g7 ⊢
    refine ⟨(by decide : 8 ≤ sizeLine), fun t8 ht8 => ?_⟩
    have e8 := same_upd (o := .lst [V.non, V.int 5, V.ref t2, V.str "house", V.ref t3, V.ref t4, V.bl true, V.ref t7]) ht8
    have e12 := e1.trans e2
    have e13 := e12.trans e3
    have e14 := e13.trans e4
    have e17 := ((e14.trans e5).trans e6).trans e7
    have S7 := hS.same e17
    have S8 := S7.same e8
    have d4 := (((e5.trans e6).trans e7).trans e8) _ _ g4
    have d3 := ((((e4.trans e5).trans e6).trans e7).trans e8) _ _ g3
    have d2 := (((((e3.trans e4).trans e5).trans e6).trans e7).trans e8) _ _ g2
    have d7 := e8 _ _ g7
    have n3 := (hS.same e12).ned ht3
    have n4 := (hS.same e13).ned ht4
    have n2 := (hS.same e1).ned ht2
    have n7 := (hS.same ((e14.trans e5).trans e6)).ned ht7
    refine ⟨d, g, c, t8, n, [V.non, V.int 5, V.ref t2, V.str "house", V.ref t3, V.ref t4, V.bl true, V.ref t7], rfl, S8, by omega, upd_same, (S7.ned ht8).2, by simp, (by show 8 < 1000; decide), fun H9 x K9 S9 hx => ?_⟩
    refine k H9 x ((kp_of (e17.trans e8)).trans K9) S9 ?_
    simp only [List.mem_cons, List.not_mem_nil, or_false] at hx
    rcases hx with rfl | rfl | rfl | rfl | rfl | rfl | rfl | rfl
    · exact ⟨_, .base .non, T.non⟩
    · exact ⟨_, .base (.int 5), T.int⟩
    · exact ⟨_, .base (.tup (K9 _ _ n2.1 n2.2 d2)), T.tup⟩
    · exact ⟨_, .base (.str _), T.str⟩
    · exact ⟨_, .base (.lst (K9 _ _ n3.1 n3.2 d3)), T.lst⟩
    · exact ⟨_, .base (.dK (K9 _ _ n4.1 n4.2 d4)), T.dic⟩
    · exact ⟨_, .base (.bl true), T.bl⟩
    · exact ⟨_, .base (.tup (K9 _ _ n7.1 n7.2 d7)), T.tup⟩
end
end K19

set_option Elab.async false
set_option linter.all false
set_option maxRecDepth 100000
set_option maxHeartbeats 4000000
/-! A caught error that is kept behind its except clause. -/
namespace K19
open PySem PySem.Spec PyProof.Rows L2

/-- an exception object that was raised: only its class is told -/
def ExT (cls : Value) (a : Addr) : HO := .ext fun h => ∃ oe : Obj, h.get? a = some oe ∧ oe.cls = cls ∧ oe.dict = none ∧ ∃ vs, oe.data = .fields vs
theorem exT_ok {P : Program} {w : World} {H : Hp} {h : Heap} {a : Addr} {cls : Value} {oe : Obj} (e : h.get? a = some oe) (z : Zc cls none oe) (d : ∃ vs, oe.data = .fields vs) : ObjOk P w H h a (ExT cls a) :=
  ⟨⟨oe, e, z.1, z.2, d⟩, ⟨oe, e⟩, fun _ _ ⟨o, q, r⟩ k => ⟨o, k o q, r⟩⟩
/-- a pinned object becomes a known one -/
theorem known_of {X : Cx} {pins : List (Addr × Obj)} {σ : L2.St} {H : Hp} {s : Shared} {a : Addr} {oe : Obj} {o : HO} (J : Inv X ((a, oe) :: pins) σ H s) (new : X.s_0.heap.get? a = none) (apart : ∀ p ∈ X.pn ++ pins, p.1 ≠ a)
    (ho : ObjOk X.prog X.w (upd H a o) s.heap a o) : Inv X pins σ (upd H a o) s := by
  obtain ⟨j1, j2, j3, j4, j5⟩ := J.pin (a, oe) (List.mem_append_right _ List.mem_cons_self)
  have ne : ∀ {b : Addr} {u : HO}, H b = some u → b ≠ a := fun {b u} e z => by
    rw [z, j2] at e
    cases e
  refine ⟨J.ok, J.os, J.bare, ⟨J.base.keep, J.base.slot, fun b u e n x => ?_, J.base.there, fun b xs e => ?_, fun b u v e => ?_, fun b ps e => ?_⟩, J.loc, J.cell, ?_, fun y c e => ?_, fun p hp => ?_, J.hok.laidN (fun _ _ e => e) j2 ho, J.len⟩
  · rw [upd_ne (fun z => by rw [z, new] at e; cases e)]
    exact J.base.free b u e n x
  · have q := J.base.tups b xs e
    rw [upd_ne (ne q)]
    exact q
  · have q := J.base.frzs b u v e
    rw [upd_ne (ne q)]
    exact q
  · obtain ⟨more, q⟩ := J.base.tbls b ps e
    exact ⟨more, by rw [upd_ne (ne q)]; exact q⟩
  · rw [upd_ne (Ne.symm j3)]
    exact J.free
  · have q := J.freeC y c e
    rw [upd_ne ?_]
    · exact q
    · intro z
      obtain ⟨v, u, h1, h2⟩ := J.cell y c e
      rw [z, j1] at h1
      cases h1
      exact j5 v h2
  · obtain ⟨p1, p2, p3⟩ := J.pin p (by
      rcases List.mem_append.mp hp with q | q
      · exact List.mem_append_left _ q
      · exact List.mem_append_right _ (List.mem_cons_of_mem _ q))
    exact ⟨p1, by rw [upd_ne (apart p hp)]; exact p2, p3⟩
/-- what 'except x as n: suite' wishes, where the caught one is known from then on -/
def wKeep (K : PySem.W.Frag) (c : Value) (i : Nat) (ts : Addr → Value → Option Addr → TS) (D : Ends) : WX := fun cls d σ H =>
  d = none ∧ PySem.W.exmOne K cls c = some true ∧ ∀ a, H a = none → ts a cls d { nx := fun σ' H' => D.nx (σ'.set i none) (upd H' a (ExT cls a)), rt := fun _ _ => False, bk := fun _ _ => False, ct := fun _ _ => False } (σ.set i (some (.ref a))) H
theorem ps_try_keep {X : Cx} {y n : Str} {c : Value} {i : Nat} {body more : List Stmt} {st : Stmt} {np pos pos' : Pos} {tb : WX → TS} {ts : Addr → Value → Option Addr → TS} (hs : X.stack = X.env :: X.outer) (hf : X.env.frame = some X.env.locals) (hex : X.ex = []) (hN : X.N.Nodup) (hi : X.N[i]? = some n) (hln : X.env.kindOf n = some .local) (hc : Names X y c)
    (hb : ∀ (W : WX) (pn : List (Addr × Obj)) (xe : Value → Shared → Prop), Takes (X.tr pn xe) W → PSs (X.tr pn xe) body (tb W))
    (hsu : ∀ (a : Addr) (oe : Obj) (cls : Value) (d : Option Addr) (pn : List (Addr × Obj)), PSs (X.suite a ((a, oe) :: pn)) (st :: more) (ts a cls d)) :
    PS X (.Try body [.ExceptHandler (some (.Name y np)) (some n) (st :: more) pos'] [] [] pos) (fun D σ H => tb (wKeep X.K c i ts D) D σ H) := by
  refine ⟨fun pins s σ H D J0 h => ?_⟩
  have ok := J0.ok
  have frames : X.A.frames = some (X.env :: X.outer) := by rw [ok.frames, hs]
  refine wpAny_Try_except ?_
  refine wpAny_mono ((hb (wKeep X.K c i ts D) (X.pn ++ pins) (fun e z1 => wpAny (model X.prog X.w) X.A (noteFrame e X.env) (fun _ z2 => wpAny (model X.prog X.w) X.A (setFlight e none)
    (fun _ z3 => wpAny (model X.prog X.w) X.A (handleBy e X.env [.ExceptHandler (some (.Name y np)) (some n) (st :: more) pos']) (SP X pins D) X.xe z3) X.xe z2) X.xe z1) (fun u z air => ?_)).run [] s σ H D (J0.toTry _) h) (fun fl z hz => ?_) (fun e z he => he)
  · obtain ⟨a, B, sI, pins2, σ2, H2, cls, d, rfl, J2, old, up, sky, free, os, ag, rfl, hx, hyes⟩ := air
    have JI : Inv X pins σ2 H2 sI := J2.ofTry ok
    have sky2 : Sky B (X.env :: X.outer) a (Zc cls none) X.env.locals z.heap := by rw [← hs]; exact sky
    show wpAny (model X.prog X.w) X.A (noteFrame (.ref a) X.env) _ _ _
    refine Sky.land Zc.steady frames hf sky2 fun g3 fl3 up3 => ?_
    have J3 : Inv X pins σ2 H2 { z with heap := g3 } := JI.landed old fl3.1 (up.trans up3) os ag
    obtain ⟨oe3, vs3, he3, hz3, hd3⟩ := fl3.there
    have offFrames : a ∉ frs (X.env :: X.outer) := fun hm => by
      obtain ⟨_, o', e', hnf⟩ := fl3.2.2.1.mem hm
      rw [he3] at e'
      cases e'
      exact hnf _ hd3
    have offLocals : a ≠ X.env.locals := fun q => offFrames (List.mem_filterMap.mpr ⟨X.env, List.mem_cons_self, by rw [hf, q]⟩)
    have offOuter : a ∉ X.fs := fun hm => by
      obtain ⟨e, he, q⟩ := List.mem_filterMap.mp hm
      exact offFrames (List.mem_filterMap.mpr ⟨e, List.mem_cons_of_mem _ he, q⟩)
    -- what was there before is not the exception
    have notOld : ∀ b o, sI.heap.get? b = some o → b ∉ frs X.stack → b ≠ a := fun b o e hb q => by
      have := old b o e hb
      rw [q, fl3.2.1] at this
      cases this
    have new0 : X.s_0.heap.get? a = none := by
      cases q : X.s_0.heap.get? a with
      | none => rfl
      | some o =>
        obtain ⟨o', q'⟩ := JI.base.there a o q (by rw [hex]; exact List.not_mem_nil)
        exact absurd rfl (notOld a o' q' (by rw [hs]; exact offFrames))
    have apart : ∀ p ∈ X.pn ++ pins, p.1 ≠ a := fun p hp => by
      obtain ⟨p1, p2, p3, p4, p5⟩ := JI.pin p hp
      refine notOld p.1 p.2 p1 fun hm => ?_
      rcases List.mem_cons.mp (JI.stkSub _ hm) with q | q
      · exact p3 q
      · exact p4 q
    have S3 := J3.suite he3 hd3 free offLocals offOuter
    refine wpAny_handleBy_cons (codeAny_handlers_test ?_) (by intro q; cases q)
    have looksT : PySem.W.Looks (model X.prog X.w) g3 (typeOf (.ref a)) cls := fun A Q E s k q => wpAny_typeOf_ref (k _ _ he3) (by rw [hz3.1]; exact q)
    have looksM := PySem.W.exm_one (M := model X.prog X.w) J3.kIn looksT hx
    have named : ∀ {Q : Value → Shared → Prop} {E : Value → Shared → Prop}, Q c { z with heap := g3 } → wpAny (model X.prog X.w) (X.A.mark (some (.ref a))) (eval (.Name y np) X.env) Q E { z with heap := g3 } := fun {Q E} q => by
      obtain ⟨hg, hdbg, hm | ⟨hm, hv, hnn⟩⟩ := hc
      · exact ld_glob (X := X.suite a ((a, oe3) :: (X.pn ++ pins))) S3 hg hm q hdbg
      · exact ld_blt (X := X.suite a ((a, oe3) :: (X.pn ++ pins))) S3 hg hm hv q hnn hdbg
    refine named (looksM.here (codeAny_handlers_suite_as (HandSPX.lands_againZ fl3 fun g4 fl4 up4 => ?_)))
    have J4 : Inv X pins σ2 H2 { z with heap := g4 } := JI.landed old fl4.1 ((up.trans up3).trans up4) os ag
    obtain ⟨oe4, vs4, he4, hz4, hd4⟩ := fl4.there
    have S4 := J4.suite he4 hd4 free offLocals offOuter
    refine store_ok (X := X.suite a ((a, oe4) :: (X.pn ++ pins))) (v := .ref a) S4 hN hi (.inl hln) rfl (fun s5 S5 => ?_) (.inr hln)
    refine wpAny_mono ((hsu a oe4 cls none (X.pn ++ pins)).run [] s5 _ H2 _ S5 (hyes a free)) (fun fl s6 q6 => ?_) (fun _ _ w => False.elim w)
    cases fl with
    | next =>
      obtain ⟨σ6, H6, S6, q6⟩ := q6
      have U : Inv X ((a, oe4) :: pins) σ6 H6 s6 := ⟨ok, S6.os, S6.bare, S6.base, S6.loc, S6.cell, S6.free, S6.freeC, fun p hp => S6.pin p (by
        rw [List.append_nil]
        rcases List.mem_append.mp hp with q | q
        · exact List.mem_cons_of_mem _ (List.mem_append_left _ q)
        · rcases List.mem_cons.mp q with q | q
          · rw [q]
            exact List.mem_cons_self
          · exact List.mem_cons_of_mem _ (List.mem_append_right _ q)), S6.hok, S6.len⟩
      exact gone_ok U hN hi hln fun s7 J7 => ⟨_, _, known_of J7 new0 apart (exT_ok (J7.pin (a, oe4) (List.mem_append_right _ List.mem_cons_self)).1 hz4 ⟨_, hd4⟩), q6⟩
    | brk =>
      obtain ⟨_, _, _, q6⟩ := q6
      exact q6.elim
    | cont =>
      obtain ⟨_, _, _, q6⟩ := q6
      exact q6.elim
    | ret u =>
      obtain ⟨_, _, _, _, _, q6⟩ := q6
      exact q6.elim
  · cases fl with
    | next =>
      obtain ⟨σ', H', J', q⟩ := hz
      exact wpAny_execs_nil ⟨σ', H', J'.ofTry ok, q⟩
    | brk =>
      obtain ⟨σ', H', J', q⟩ := hz
      exact ⟨σ', H', J'.ofTry ok, q⟩
    | cont =>
      obtain ⟨σ', H', J', q⟩ := hz
      exact ⟨σ', H', J'.ofTry ok, q⟩
    | ret u =>
      obtain ⟨v, σ', H', J', r, q⟩ := hz
      exact ⟨v, σ', H', J'.ofTry ok, r, q⟩
/-- isinstance(e, c), e such an exception -/
def rIsX (K : PySem.W.Frag) (D : Addr) : List V → Hp → VK → Prop := fun xs H Q => ∃ (a : Addr) (b : Bool), xs = [.ref a, .ref D] ∧ H a = some (ExT (.ref D) a) ∧ PySem.W.kitOne K (.ref D) (.ref D) = some b ∧ Q (.bl b) H
theorem call_isX {X : Cx} {D : Addr} (C : ExcC X.K D) : CallR X (.builtin "isinstance") (rIsX X.K D) := by
  intro pins s σ H xs us Q J r h
  obtain ⟨a, b, rfl, ha, e, q⟩ := h
  obtain ⟨u1, u2, rfl, r1, r2⟩ := vals2 r
  cases (show u1 = Value.ref a from r1)
  cases (show u2 = Value.ref D from r2)
  obtain ⟨⟨oe, h1, h2, h3, vs, h4⟩, _, _⟩ := J.hok a _ ha
  have there : PySem.W.InstAt s.heap a oe D none := by
    obtain ⟨oc, od, oda, osl⟩ := oe
    dsimp only at h2 h3 h4
    subst h2 h3 h4
    exact ⟨h1, rfl, rfl, trivial⟩
  exact PySem.W.kia_one (PySem.W.handS_kitx_exc C.hg C.hk C.hs C.hd C.ha C.hn C.ht C.hm) J.kIn there e (fun z => nomatch z) fun tk => ⟨.bl b, H, J.tok tk, rfl, q⟩
end K19

set_option Elab.async false
set_option linter.all false
set_option maxRecDepth 100000
set_option maxHeartbeats 4000000
/-! A lambda as a value that is kept: made, called. -/
namespace K19
open PySem PySem.Spec PyProof.Rows L2

/-- the object at f is ob -/
def FnO (f : Addr) (ob : Obj) : HO := .ext fun h => h.get? f = some ob
theorem fnO_ok {P : Program} {w : World} {H : Hp} {h : Heap} {f : Addr} {ob : Obj} (e : h.get? f = some ob) : ObjOk P w H h f (FnO f ob) := ⟨e, ⟨ob, e⟩, fun _ _ q k => k _ q⟩
/-- a lambda that captures nothing -/
abbrev lamOb (q : Str) (params : Arguments) (body : Expr) (scope : Scope) (pm : Value) (c' : Addr) (ctv : Value) : Obj := PySem.W.kla_obj "<lambda>" q params body scope [] pm c' ctv
def IsLam (H : Hp) (f : Addr) (q : Str) (params : Arguments) (body : Expr) (scope : Scope) : Prop := ∃ (pm ctv : Value) (c' : Addr), H f = some (FnO f (lamOb q params body scope pm c' ctv)) ∧ H c' = some (LamX.CodeO c' q)
theorem IsLam.ext {H H' : Hp} {f : Addr} {q : Str} {params : Arguments} {body : Expr} {scope : Scope} (h : IsLam H f q params body scope) (e : LamX.ExtN H H') : IsLam H' f q params body scope := by
  obtain ⟨pm, ctv, c', h1, h2⟩ := h
  exact ⟨pm, ctv, c', e _ _ h1 (fun ps z => by unfold FnO at z; cases z), e _ _ h2 LamX.codeO_ne⟩
section
variable {X : Cx} {pins : List (Addr × Obj)} {σ : L2.St} {H : Hp} {s : Shared}
theorem lam_born {T : List (Addr × Str)} {c P : Addr} {params : Arguments} {body : Expr} {scope : Scope} {pos : Pos} {E Q : Value → Shared → Prop} (J : Inv X pins σ H s) (TB : LamX.TabB X.base X.mg c P) (hcode : X.env.code = .ref c) (mem : (P, X.env.qual ++ "<lambda>") ∈ T)
    (one : ∀ p ∈ T, p.1 = P → p.2 = X.env.qual ++ "<lambda>") (tabs : LamX.Tabs T H) (nodef : defaultsOf params X.env = ([], [])) (hfree : ∀ y ∈ scope.names, y.2 = .free → ∃ c, X.env.cells.lookup y.1 = some c) (clo : cloFrom X.env.cells scope.names [] = [])
    (k : ∀ (f : Addr) (H1 : Hp) (z : Shared), Inv X pins σ H1 z → LamX.ExtN H H1 → LamX.Tabs T H1 → IsLam H1 f (X.env.qual ++ "<lambda>") params body scope → Q (.ref f) z) :
    wpAny (model X.prog X.w) X.A (eval (.Lambda params body scope pos) X.env) Q E s := by
  obtain ⟨ps, tabP, trip, told⟩ := tabs _ mem
  refine PySem.W.kla_eval nodef ?_
  have onP : s.heap.get? P = some { cls := .none, data := .fields ps } := J.hok P _ tabP
  have clos := closure_ok hfree
  rw [clo] at clos
  cases among : codeAmong pos ps.toList with
  | none =>
    refine PySem.W.kla_makeFunction (mg := X.mg) (c := c) (P := P) (ps := ps) clos J.ok.glob (J.mod.glob.keeps J.bk) hcode (TB.code.keeps J.bk) onP trip among TB.gP (TB.bm.keeps J.bk) fun c' ctv g tk kept above below rec tabG => ?_
    obtain ⟨c2, oc, fs, t, e2, onC, isF, nm⟩ := rec
    cases e2
    have freeC : H c' = none := J.hok.fresh above
    have I1 := LamX.inv_table (t' := tk) (more := #[rawInt pos.line, rawInt pos.col, .ref c']) (h' := g) J tabP (fun b o hb e => kept b o hb e) tabG above ⟨oc, fs, t, onC, isF, nm⟩ (q := X.env.qual ++ "<lambda>")
    have big : s.heap.objs.size ≤ g.objs.size := Nat.le_trans above (Nat.le_of_lt below)
    have I2 := I1.laid (t' := tk) (a := g.objs.size) (o := FnO g.objs.size (lamOb (X.env.qual ++ "<lambda>") params body scope ((X.mg "__name__").getD .none) c' ctv)) (fun _ _ q => Heap.get?_push_of_some _ q) (Nat.le_refl _) (fnO_ok (Heap.get?_push_size _ rfl))
    have freeF : H g.objs.size = none := J.hok.fresh big
    have fP : P ≠ g.objs.size := ne_of_none tabP freeF
    have cP : P ≠ c' := ne_of_none tabP freeC
    have cF : c' ≠ g.objs.size := Nat.ne_of_lt below
    have ext : LamX.ExtN H (upd (upd (upd H P (.tbl (ps ++ #[rawInt pos.line, rawInt pos.col, .ref c']))) c' (LamX.CodeO c' (X.env.qual ++ "<lambda>"))) g.objs.size (FnO g.objs.size (lamOb (X.env.qual ++ "<lambda>") params body scope ((X.mg "__name__").getD .none) c' ctv))) := fun b o e n => by
      rw [upd_ne (ne_of_none e freeF), upd_ne (ne_of_none e freeC), upd_ne (fun z => n ps (Option.some.inj (e.symm.trans (by rw [z]; exact tabP))))]
      exact e
    have codeH : (upd (upd (upd H P (.tbl (ps ++ #[rawInt pos.line, rawInt pos.col, .ref c']))) c' (LamX.CodeO c' (X.env.qual ++ "<lambda>"))) g.objs.size (FnO g.objs.size (lamOb (X.env.qual ++ "<lambda>") params body scope ((X.mg "__name__").getD .none) c' ctv))) c' = some (LamX.CodeO c' (X.env.qual ++ "<lambda>")) := by
      rw [upd_ne cF, upd_same]
    have lst : (ps ++ #[rawInt pos.line, rawInt pos.col, .ref c']).toList = ps.toList ++ [rawInt pos.line, rawInt pos.col, .ref c'] := by simp
    refine k g.objs.size _ _ I2 ext (fun p hp => ?_) ⟨_, ctv, c', upd_same, codeH⟩
    by_cases hb : p.1 = P
    · rw [one p hp hb, hb]
      refine ⟨_, by rw [upd_ne fP, upd_ne cP, upd_same], by rw [lst]; exact PySem.TriplesOk_snoc _ _ _ _ trip, fun p' cv found => ?_⟩
      rw [lst] at found
      rcases LamX.among_app _ trip found with z | z
      · obtain ⟨c0, a1, a2⟩ := told p' cv z
        exact ⟨c0, a1, ext _ _ a2 LamX.codeO_ne⟩
      · exact ⟨c', z, codeH⟩
    · obtain ⟨ps', a1, a2, a3⟩ := tabs p hp
      refine ⟨ps', by rw [upd_ne (ne_of_none a1 freeF), upd_ne (ne_of_none a1 freeC), upd_ne hb]; exact a1, a2, fun p' cv found => ?_⟩
      obtain ⟨c0, b1, b2⟩ := a3 p' cv found
      exact ⟨c0, b1, ext _ _ b2 LamX.codeO_ne⟩
  | some cv =>
    obtain ⟨c', e, codeH⟩ := told pos cv among
    subst e
    refine PySem.W.kla_makeFunctionHit (mg := X.mg) (c := c) (P := P) (ps := ps) clos J.ok.glob (J.mod.glob.keeps J.bk) hcode (TB.code.keeps J.bk) onP trip among (TB.bm.keeps J.bk) fun ctv g tk kept big => ?_
    have I1 : Inv X pins σ H { s with heap := g, toks := tk } := J.kept kept
    have I2 := I1.laid (t' := tk) (a := g.objs.size) (o := FnO g.objs.size (lamOb (X.env.qual ++ "<lambda>") params body scope ((X.mg "__name__").getD .none) c' ctv)) (fun _ _ q => Heap.get?_push_of_some _ q) (Nat.le_refl _) (fnO_ok (Heap.get?_push_size _ rfl))
    have freeF : H g.objs.size = none := J.hok.fresh big
    have e := same_upd (o := FnO g.objs.size (lamOb (X.env.qual ++ "<lambda>") params body scope ((X.mg "__name__").getD .none) c' ctv)) freeF
    exact k g.objs.size _ _ I2 (LamX.ExtN.of e) (tabs.ext e) ⟨_, ctv, c', upd_same, e _ _ codeH⟩
/-- lambda ..: its body, where it captures nothing -/
def tLamV (T : List (Addr × Str)) (q : Str) (params : Arguments) (body : Expr) (scope : Scope) : TE := fun _ H Q => LamX.Tabs T H ∧ ∀ (f : Addr) (H1 : Hp), LamX.ExtN H H1 → LamX.Tabs T H1 → IsLam H1 f q params body scope → Q (.ref f) H1
theorem pe_lamV {T : List (Addr × Str)} {c P : Addr} {params : Arguments} {body : Expr} {scope : Scope} {pos : Pos} (TB : LamX.TabB X.base X.mg c P) (hcode : X.env.code = .ref c) (mem : (P, X.env.qual ++ "<lambda>") ∈ T)
    (one : ∀ p ∈ T, p.1 = P → p.2 = X.env.qual ++ "<lambda>") (nodef : defaultsOf params X.env = ([], [])) (nofree : ∀ y ∈ scope.names, y.2 ≠ .free) (clo : cloFrom X.env.cells scope.names [] = []) :
    PE X (.Lambda params body scope pos) (tLamV T (X.env.qual ++ "<lambda>") params body scope) := by
  refine ⟨fun pins s σ H Q J h => ?_⟩
  obtain ⟨tabs, h⟩ := h
  exact lam_born J TB hcode mem one tabs nodef (fun y hy e => absurd e (nofree y hy)) clo fun f H1 z J1 ext t1 isl => ⟨.ref f, H1, J1, rfl, h f H1 ext t1 isl⟩
/-- such a lambda of one parameter, called -/
theorem run_lamV {N : List Str} {prm q : Str} {f : Addr} {params : Arguments} {body : Expr} {scope : Scope} {k : Nat} {Q : VK} {E : XK} {u : Value} {v : V} {t : TE} (J : Inv X pins σ H s) (isl : IsLam H f q params body scope) (S : FnScope N [prm] scope)
    (bind : ∀ (pm cv ctv : Value), bindArgs (PySem.W.kla_fn "<lambda>" q params body scope [] pm cv ctv) ⟨[u], []⟩ = pure [(prm, u)]) (r : RelV v u) (hr : Room (k + 1) X.A)
    (hx : ∀ (e : Value) (z : Shared), L2.CX X.prog X.w X.stack H s E e z → X.xe e z)
    (hbody : ∀ cdv : Value, Room k (X.A.deeper (envOfC q scope s.heap.objs.size f cdv)) → PE (cxOf (L2.CX X.prog X.w) X.prog X.w X.K X.mg X.base N q scope f cdv X.A X.stack s H E) body t) (ht : t (start N [v]) H Q) :
    wpAny (model X.prog X.w) X.A (call (.ref f) [u]) (EP X pins σ Q) X.xe s := by
  obtain ⟨pm, ctv, c', hf, hc⟩ := isl
  have onF : s.heap.get? f = some (lamOb q params body scope pm c' ctv) := (J.hok f _ hf).1
  obtain ⟨⟨oc, fs, tk, onC, isF, nm⟩, _, _⟩ := J.hok c' _ hc
  have kinds : ∀ y ∈ [(prm, u)], scope.names.lookup y.1 = some .local ∨ (scope.names.lookup y.1 = some .cell ∧ ((cellsFrom (s.heap.objs.size + 1) scope.names []).lookup y.1).isSome = true) := fun y hy => by
    rw [List.mem_singleton.mp hy]
    rcases S.par prm List.mem_cons_self with z | z
    · exact .inl z
    · exact .inr ⟨z, PySem.W.cellsFrom_some _ _ _ (.inl z)⟩
  have runs : codeAny (model X.prog X.w) X.A (.call (.ref f) ⟨[u], []⟩) (CR (L2.CX X.prog X.w) X.stack X.prog X.w H s Q E) s := by
    refine PySem.W.kla_callFunE hr.depth onF rfl S.co S.gen rfl ⟨c', oc, fs, tk, rfl, onC, isF, nm⟩ ?_
    rw [bind]
    refine wpAny_pure (wpAny_newFunctionEnv_cells S.kind kinds fun env isE s1 x => ?_)
    subst isE
    refine ⟨J.nolimit.keeps x.toInCall.keep, PySem.W.kla_codeExpr ?_⟩
    have JL : Inv (cxOf (L2.CX X.prog X.w) X.prog X.w X.K X.mg X.base N q scope f (.ref c') X.A X.stack s H E) [] (start N [v]) H s1 := inv_start S hr.hd J.env0 rfl (.cons r .nil) x
    refine wpAny_mono ((hbody (.ref c') (hr.deeper _)).run [] s1 _ H Q JL ht) (fun a z hz => ?_) fun e z hz => hz
    obtain ⟨b, H', J', rb, hq⟩ := hz
    exact ⟨b, H', J'.os, J'.bare, J'.base, J'.hok, rb, hq⟩
  refine wpAny_call (codeAny_mono runs fun res z hz => ?_)
  cases res with
  | error e => exact hx e z hz
  | ok fl =>
    cases fl with
    | ret a => exact J.after hz
    | next => exact False.elim hz
    | brk => exact False.elim hz
    | cont => exact False.elim hz
end
end K19

set_option Elab.async false
set_option linter.all false
set_option maxRecDepth 100000
set_option maxHeartbeats 4000000
/-! The law's last loop: who is asked, what is caught. -/
namespace K19
open PySem PySem.Spec PyProof.Rows L2

/-- f(v), f one of the three, v no house: BadHouse is raised -/
def tWork (K : PySem.W.Frag) (mg : Str → Option Value) (C CB : Addr) (i j : Nat) (q : Str) (params : Arguments) (body : Expr) (scope : Scope) (W : WX) : TE := fun σ H _ => ∃ (fx : Addr) (v : V), σ[i]? = some (some (.ref fx)) ∧ σ[j]? = some (some v) ∧ NoHouse K C H v ∧
  (mg "signs_of" = some (.ref fx) ∨ mg "turning_walk" = some (.ref fx) ∨ IsLam H fx q params body scope) ∧ W (.ref CB) none σ H
section
variable {X : Cx}
theorem pe_work {W : WX} {C CB : Addr} {i j : Nat} {a b q : Str} {params : Arguments} {body : Expr} {scope : Scope} {p1 p2 pos : Pos} (tk : Takes X W) (SO : DefAt X.prog X.w X.K X.mg X.base (L2.CX X.prog X.w) 5 "signs_of" a_p_signs_of (spSignsOf X.K C CB))
    (TW : DefAt X.prog X.w X.K X.mg X.base (L2.CX X.prog X.w) 4 "turning_walk" a_p_turning_walk (spTurn X.K C CB)) (hr : Room 5 X.A) (hN : X.N[i]? = some a) (hv : Vis X.env.scope a) (hN2 : X.N[j]? = some b) (hv2 : Vis X.env.scope b)
    (S : FnScope ["_law_item"] ["_law_item"] scope) (bind : ∀ (u pm cv ctv : Value), bindArgs (PySem.W.kla_fn "<lambda>" q params body scope [] pm cv ctv) ⟨[u], []⟩ = pure [(("_law_item" : Str), u)])
    (t : XK → TE) (hbody : ∀ (s : Shared) (H : Hp) (E : XK) (f : Addr) (cdv : Value), Room 4 (X.A.deeper (envOfC q scope s.heap.objs.size f cdv)) → PE (cxOf (L2.CX X.prog X.w) X.prog X.w X.K X.mg X.base ["_law_item"] q scope f cdv X.A X.stack s H E) body (t E))
    (ht : ∀ (E : XK) (v : V) (H : Hp) (Q : VK), NoHouse X.K C H v → E (.ref CB) none H → t E (start ["_law_item"] [v]) H Q)
    (hd : (a == ("__debug__" : Str)) = false := by decide) (hcd : (a == ("__classdict__" : Str)) = false := by decide) (hd2 : (b == ("__debug__" : Str)) = false := by decide) (hcd2 : (b == ("__classdict__" : Str)) = false := by decide) :
    PE X (.Call (.Name a p1) [.Name b p2] [] pos) (tWork X.K X.mg C CB i j q params body scope W) := by
  refine ⟨fun pins s σ H Q J h => ?_⟩
  obtain ⟨fx, v, h1, h2, nh, who, w⟩ := h
  refine wpAny_Call_Name_kw (thn ((pe_var (pos := p1) (i := i) hN hv hd hcd).run pins s σ H (fun x H1 => x = .ref fx ∧ H1 = H) J ⟨.ref fx, h1, rfl, rfl⟩) fun u s1 ⟨x, H1, J1, r1, q1⟩ => ?_)
  obtain ⟨ev, eH⟩ := q1
  subst ev
  rw [eH] at J1
  obtain rfl : u = Value.ref fx := r1
  have args : PA X [.Name b p2] (tCons (tVar j) tNil) := pa_cons (pe_var (i := j) hN2 hv2 hd2 hcd2) pa_nil
  have argRun := args.run pos pins s1 σ H (fun vs H1 => vs = [v] ∧ H1 = H) J1 ⟨v, h2, rfl, rfl⟩
  rcases who with g | g | isl
  · obtain ⟨f, fd, g', kp, bd, F⟩ := SO
    obtain rfl : f = fx := Value.ref.inj (Option.some.inj (g'.symm.trans g))
    refine PySem.W.callWith_K (h₀ := X.base) J1.ok.mod.kin kp (thn argRun fun us s2 ⟨vs, H2, J2, r2, e1, e2⟩ => ?_)
    subst e1
    rw [e2] at J2
    exact ⟨J2.kIn, run_fnS F hr bd (passAt tk σ) J2 r2 (.inl ⟨v, rfl, nh, w⟩)⟩
  · obtain ⟨f, fd, g', kp, bd, F⟩ := TW
    obtain rfl : f = fx := Value.ref.inj (Option.some.inj (g'.symm.trans g))
    refine PySem.W.callWith_K (h₀ := X.base) J1.ok.mod.kin kp (thn argRun fun us s2 ⟨vs, H2, J2, r2, e1, e2⟩ => ?_)
    subst e1
    rw [e2] at J2
    exact ⟨J2.kIn, run_fnS F (hr.mono (by decide)) bd (passAt tk σ) J2 r2 (.inl ⟨v, rfl, nh, w⟩)⟩
  · have there : ∀ {z : Shared}, Inv X pins σ H z → PySem.W.FnAt fx z.heap := fun {z} Jz => by
      obtain ⟨pm, ctv, c', hf, _⟩ := isl
      exact ⟨_, _, _, _, (Jz.hok fx _ hf).1⟩
    refine PySem.W.callWith_F (there J1) (thn argRun fun us s2 ⟨vs, H2, J2, r2, e1, e2⟩ => ?_)
    subst e1
    rw [e2] at J2
    refine ⟨there J2, ?_⟩
    obtain ⟨u1, rfl, ru⟩ := vals1 r2
    exact run_lamV (N := ["_law_item"]) (prm := ("_law_item" : Str)) (k := 4) (E := WE W σ) (v := v) (t := t (WE W σ)) J2 isl S (fun pm cv ctv => bind u1 pm cv ctv) ru hr (fun e z hz => passAt tk σ pins H s2 e z J2 hz) (fun cdv hr' => hbody s2 H (WE W σ) fx cdv hr') (ht (WE W σ) v H Q nh w)
/-- what _law_caught makes of its work -/
def TTk (CB : Addr) : (XK → Hp → VK → Prop) → Hp → VK → Prop := fun tl H Q => ∀ Q0 : VK, tl (fun cls d H' => d = none ∧ cls = .ref CB ∧ ∀ a, H' a = none → Q (.ref a) (upd H' a (ExT (.ref CB) a))) H Q0
theorem takes_len {X : Cx} {W : WX} {m : Nat} (tk : Takes X W) (hm : X.N.length = m := by rfl) : Takes X (fun cls d σ H => σ.length = m → W cls d σ H) := fun u z x => by
  obtain ⟨a, B, sI, pins, σ, H, cls, d, e, J, h1, h2, h3, h4, h5, h6, h7⟩ := x
  exact tk u z ⟨a, B, sI, pins, σ, H, cls, d, e, J, h1, h2, h3, h4, h5, h6, h7 (by rw [J.len, hm])⟩
theorem caught_gives {X : Cx} {q : Str} {g CP CB : Addr} {cdg : Value} (mP : X.mg "PullError" = some (.ref CP)) (ex : PySem.W.exmOne X.K (.ref CB) (.ref CP) = some true) :
    LamX.GivesTo X n_caught "_law_caught" (defScope s_caught) g cdg (defBody s_caught) "_law_work" q (TTk CB) := by
  intro f c' s H Q tl act hc h
  have gl : Gl (cxOf C8.CX0 X.prog X.w X.K X.mg X.base n_caught "_law_caught" (defScope s_caught) g cdg X.A X.stack s H C8.E0).nox "PullError" := rfl
  refine ⟨_, pss_cons (ps_set (i := 1) sc_caught.nd rfl (Or.inl rfl) pe_non)
    (pss_cons (ps_try_keep (X := (cxOf C8.CX0 X.prog X.w X.K X.mg X.base n_caught "_law_caught" (defScope s_caught) g cdg X.A X.stack s H C8.E0).nox) (i := 2) (n := "error") (c := .ref CP)
      (tb := fun W D σ H => ∃ Ech : XK, (∀ (cls : Value) (d : Option Addr) (σ' : L2.St) (H' : Hp), Ech cls d H' → σ'.length = 3 → W cls d σ' H') ∧ σ[0]? = some (some (.ref f)) ∧ H c' = some (LamX.CodeO c' q) ∧ tl Ech H (fun _ H' => D.nx σ H'))
      rfl rfl rfl sc_caught.nd rfl rfl ⟨gl, by decide, .inl mP⟩ (fun W pn xe tk => ?_) (fun a oe cls d pn => pss_one (ps_set (i := 1) sc_caught.nd rfl (Or.inl rfl) (pv 2))))
    (pss_one (ps_ret (pv 1)))), ?_⟩
  · refine ⟨fun pins z σ' H' D J h' => ?_⟩
    obtain ⟨Ech, hW, h1, h2, h3⟩ := h'
    exact PSs.run (pss_one (ps_expr (act (fun cls d σ' H' => σ'.length = 3 → W cls d σ' H') pn xe Ech _ _ (takes_len tk) (fun cls d σ' H' e l => hW cls d σ' H' e l)))) pins z σ' H' D J ⟨h1, h2, h3⟩
  · refine ⟨fun cls d H' => d = none ∧ cls = .ref CB ∧ ∀ a, H' a = none → Q (.ref a) (upd H' a (ExT (.ref CB) a)), ?_, rfl, hc, ?_⟩
    · rintro cls d σ' H' ⟨rfl, rfl, q⟩ l
      obtain ⟨x0, x1, x2, rfl⟩ : ∃ x0 x1 x2, σ' = [x0, x1, x2] := by
        match σ', l with
        | [x0, x1, x2], _ => exact ⟨x0, x1, x2, rfl⟩
      exact ⟨rfl, ex, fun a ha => ⟨_, rfl, _, rfl, q a ha⟩⟩
    · exact h _
end
end K19

set_option Elab.async false
set_option linter.all false
set_option maxRecDepth 100000
set_option maxHeartbeats 4000000
/-! What the law's own body needs: keyword calls, tuple * n, houses changed, tables kept. -/
namespace K19
open PySem PySem.Spec PyProof.Rows L2

/-- a def by its name, called with keywords alone -/
def DefKAt (P : Program) (w : World) (K : PySem.W.Frag) (mg : Str → Option Value) (base : Heap) (CX : CXT) (k : Nat) (x : Str) (ps : List Str) (sp : Sp) : Prop :=
  ∃ f fd, mg x = some (.ref f) ∧ PySem.W.keepIn K (.ref f) = true ∧ (∀ (s : Shared) (ws : List Value), ws.length = ps.length → BindsTo s fd ⟨[], ps.zip ws⟩ (ps.zip ws)) ∧ FnOk P w K mg base CX k f fd ps sp
theorem pe_defKX {X : Cx} {W : WX} {k : Nat} {x : Str} {ps : List Str} {sp : Sp} {p pos : Pos} {kws : List Keyword} {t : TA} (tk : Takes X W) (D : DefKAt X.prog X.w X.K X.mg X.base (L2.CX X.prog X.w) k x ps sp) (hr : Room k X.A) (hg : Gl X x) (hkw : PK X kws t)
    (hall : (backToKw pos (keywordEach kws X.env)).all (·.1.isSome) = true := by rfl) (hks : (backToKw pos (keywordEach kws X.env)).filterMap (·.1) = ps := by rfl) (hdb : (x == ("__debug__" : Str)) = false := by decide)
    (hpl : ((backTo pos (starEach [] X.env)).any (·.1) || (backToKw pos (keywordEach kws X.env)).any (·.1.isNone)) = false := by rfl) : PE X (.Call (.Name x p) [] kws pos) (tCallS sp (WE W) t) := by
  obtain ⟨f, fd, g, kp, bd, F⟩ := D
  refine ⟨fun pins s σ H Q J h => ?_⟩
  refine wpAny_Call_Name_kw (ld_glob J hg g ?_ hdb)
  refine PySem.W.callWith_KW0 (h₀ := X.base) J.ok.mod.kin kp hall (thn (hkw.run pos pins s σ H _ J h) fun ws z ⟨zs, H2, J2, rz, q⟩ => ⟨J2.kIn, ?_⟩) hpl
  rw [hks]
  have hl : ws.length = ps.length := by
    rw [← rz.length]
    exact F.len _ _ _ _ q
  refine wpAny_call (codeAny_mono (F.run X.A X.stack z H2 ⟨[], ps.zip ws⟩ ws zs Q (WE W σ) hr J2.env0 (bd z ws hl) rz q) fun res z2 hq => ?_)
  cases res with
  | error e => exact passAt tk σ pins H2 z e z2 J2 hq
  | ok fl =>
    cases fl with
    | ret a => exact J2.after hq
    | next => exact False.elim hq
    | brk => exact False.elim hq
    | cont => exact False.elim hq
/-- tuple * n, n not 0 -/
def rRep (K : PySem.W.Frag) : R2 := fun x y H Q => ∃ (l : Addr) (k : Nat) (v : V), x = .ref l ∧ y = .int (k : Int) ∧ H l = some (.tup [v]) ∧ 1 ≤ k ∧ k ≤ 1000 ∧ ∀ (H' : Hp) (p : Addr), Same H H' → H' p = some (.tup (List.replicate k v)) → Q (.ref p) H'
theorem flat_one {v : V} : ∀ k : Nat, (List.replicate k [v]).flatten = List.replicate k v
  | 0 => rfl
  | k + 1 => by
    rw [List.replicate_succ, List.flatten_cons, flat_one k]
    rfl
theorem op_rep {X : Cx} : OpR X (binaryOp .Mult) (rRep X.K) := by
  intro pins z σ H x y v u Q J rx ry h
  obtain ⟨l, k, v0, rfl, rfl, hl, k1, k2, q⟩ := h
  by_cases c : k = 1
  · subst c
    exact op_rep1 pins z σ H _ _ v u Q J rx ry ⟨l, [v0], rfl, rfl, SqT.of hl, q H l (Same.refl H) hl⟩
  · refine op_repT pins z σ H _ _ v u Q J rx ry ⟨l, (k : Int), [v0], rfl, rfl, SqT.of hl, List.cons_ne_nil _ _, by omega, by omega, (by decide : 1 ≤ 1000), fun p hp => ?_⟩
    have e : (List.replicate (k : Int).toNat [v0]).flatten = List.replicate k v0 := by rw [Int.toNat_natCast, flat_one]
    rw [e]
    exact q _ p (same_upd hp) upd_same
/-- a house with other numbers -/
theorem House.of {R : Nat} {ds es : List Dr} (h : House R ds) (p : Paired (fun e d : Dr => e.n = d.n ∧ e.r = d.r) es ds) (ok : ∀ e ∈ es, okDr R e) : House R es := by
  refine ⟨h.r1, h.r7, by rw [p.length]; exact h.len, ok, fun S hS => h.conn S fun d hd => ?_⟩
  obtain ⟨i, hi, e⟩ := List.mem_iff_getElem.mp hd
  obtain ⟨d', hd', z1, z2⟩ := pair_at p (show ds[i]? = some d by rw [List.getElem?_eq_getElem hi, e])
  rw [← z1, ← z2]
  exact hS d' (List.mem_of_getElem? hd')
theorem tabs_kp {T : List (Addr × Str)} {d g c : Addr} {n : Nat} {H H' : Hp} (t : LamX.Tabs T H) (s : StAt d g c n H) (k : Kp d g H H') : LamX.Tabs T H' := by
  obtain ⟨gs, cs, l, t', a, t0, t1, h1, h2, h3⟩ := s
  have keep : ∀ b o, H b = some o → (∀ xs, o ≠ .dK xs) → (∀ xs, o ≠ .lst xs) → H' b = some o := fun b o e n1 n2 => k b o (fun z => by
    rw [z, h1] at e
    exact n1 _ (Option.some.inj e).symm) (fun z => by
    rw [z, h2] at e
    exact n2 _ (Option.some.inj e).symm) e
  intro p hp
  obtain ⟨ps, a1, a2, a3⟩ := t p hp
  refine ⟨ps, keep _ _ a1 (fun xs z => by cases z) (fun xs z => by cases z), a2, fun pos cv hc => ?_⟩
  obtain ⟨c0, b1, b2⟩ := a3 pos cv hc
  exact ⟨c0, b1, keep _ _ b2 (fun xs z => by unfold LamX.CodeO at z; cases z) (fun xs z => by unfold LamX.CodeO at z; cases z)⟩
end K19

set_option Elab.async false
set_option linter.all false
set_option maxRecDepth 100000
set_option maxHeartbeats 4000000
/-! Small lemmas for the law's own body. -/
namespace K19
open PySem PySem.Spec PyProof.Rows L2

def absI (z : Int) : Int := if z < 0 then -z else z
theorem absI_laws {z : Int} (h : z ≠ 0) (h1 : -999 ≤ z) (h2 : z ≤ 999) : 1 ≤ absI z ∧ absI z ≤ 999 := by
  unfold absI
  split <;> omega
def absD (d : Dr) : Dr := ⟨d.n, absI d.f, d.r, d.s⟩
theorem absD_ok {R : Nat} {d : Dr} (h : okDr R d) : okDr R (absD d) := by
  obtain ⟨h1, h2, h3, h4, h5, h6, h7, h8, h9, h10⟩ := h
  obtain ⟨a1, a2⟩ := absI_laws h5 h7 h8
  exact ⟨h1, h2, h3, h4, by show absI d.f ≠ 0; omega, h6, by show -999 ≤ absI d.f; omega, by show absI d.f ≤ 999; omega, h9, h10⟩
def turnD (ts : List Int) (d : Dr) : Dr := ⟨d.n, absI d.f * ts.getD d.n.toNat 0, d.r, absI d.s * ts.getD d.r.toNat 0⟩
theorem turnD_ok {R : Nat} {d : Dr} {ts : List Int} (h : okDr R d) (hl : ts.length = R) (ht : ∀ t ∈ ts, t = 1 ∨ t = -1) : okDr R (turnD ts d) := by
  obtain ⟨h1, h2, h3, h4, h5, h6, h7, h8, h9, h10⟩ := h
  obtain ⟨a1, a2⟩ := absI_laws h5 h7 h8
  obtain ⟨b1, b2⟩ := absI_laws h6 h9 h10
  have p1 := getD_pm ht (i := d.n.toNat) (by omega)
  have p2 := getD_pm ht (i := d.r.toNat) (by omega)
  unfold turnD
  generalize absI d.f = x at a1 a2 ⊢
  generalize absI d.s = y at b1 b2 ⊢
  rcases p1 with e | e <;> rcases p2 with e' | e' <;> rw [e, e'] <;> refine ⟨h1, h2, h3, h4, ?_, ?_, ?_, ?_, ?_, ?_⟩ <;> first
    | (show x * 1 ≠ 0; omega) | (show x * -1 ≠ 0; omega) | (show y * 1 ≠ 0; omega) | (show y * -1 ≠ 0; omega)
    | (show -999 ≤ x * 1; omega) | (show -999 ≤ x * -1; omega) | (show x * 1 ≤ 999; omega) | (show x * -1 ≤ 999; omega)
    | (show -999 ≤ y * 1; omega) | (show -999 ≤ y * -1; omega) | (show y * 1 ≤ 999; omega) | (show y * -1 ≤ 999; omega)
theorem pair_map {ds : List Dr} {g : Dr → Dr} (h : ∀ d, (g d).n = d.n ∧ (g d).r = d.r) : Paired (fun e d : Dr => e.n = d.n ∧ e.r = d.r) (ds.map g) ds := by
  induction ds with
  | nil => exact .nil
  | cons d ds ih => exact .cons (h d) ih
theorem House.map {R : Nat} {ds : List Dr} {g : Dr → Dr} (hH : House R ds) (h : ∀ d, (g d).n = d.n ∧ (g d).r = d.r) (ok : ∀ d, okDr R d → okDr R (g d)) : House R (ds.map g) :=
  hH.of (pair_map h) fun e he => by
    obtain ⟨d, hd, rfl⟩ := List.mem_map.mp he
    exact ok d (hH.ok d hd)
/-- something that is asked about -/
def Thing (K : PySem.W.Frag) (H : Hp) (v : V) : Prop := NoTup K H v ∨ ∃ a xs, v = .ref a ∧ H a = some (.tup xs) ∧ (∀ x ∈ xs, IB x) ∧ xs.length ≤ 100
theorem tyX_ext {K : PySem.W.Frag} {H H' : Hp} {v : V} {t : Value} (h : TyX K H v t) (e : LamX.ExtN H H') : TyX K H' v t := by
  cases h with
  | base b =>
    cases b with
    | non => exact .base .non
    | bl x => exact .base (.bl x)
    | int i => exact .base (.int i)
    | str x => exact .base (.str x)
    | flt x => exact .base (.flt x)
    | lst q => exact .base (.lst (e _ _ q (fun ps z => by cases z)))
    | frz q => exact .base (.frz (e _ _ q (fun ps z => by cases z)))
    | tup q => exact .base (.tup (e _ _ q (fun ps z => by cases z)))
    | dK q => exact .base (.dK (e _ _ q (fun ps z => by cases z)))
    | dT q => exact .base (.dT (e _ _ q (fun ps z => by cases z)))
    | ins q cl ha hn htk hm => exact .base (.ins (e _ _ q (fun ps z => by cases z)) cl ha hn htk hm)
  | byt b => exact .byt b
  | set q => exact .set (e _ _ q (fun ps z => by cases z))
  | kList q c => exact .kList q c
  | kTuple q c => exact .kTuple q c
  | kDict q c => exact .kDict q c
  | fTuple q => exact .fTuple (e _ _ q (fun ps z => by cases z))
  | fDict q => exact .fDict (e _ _ q (fun ps z => by cases z))
theorem NoHouse.ext {K : PySem.W.Frag} {C : Addr} {H H' : Hp} {v : V} (h : NoHouse K C H v) (e : LamX.ExtN H H') : NoHouse K C H' v := by
  obtain ⟨t, h1, h2⟩ := h
  exact ⟨t, tyX_ext h1 e, h2⟩
theorem Thing.same {K : PySem.W.Frag} {H H' : Hp} {v : V} (h : Thing K H v) (e : Same H H') : Thing K H' v := by
  rcases h with ⟨t, h1, h2⟩ | ⟨a, xs, e1, h1, h2, h3⟩
  · exact .inl ⟨t, tyX_ext h1 (LamX.ExtN.of e), h2⟩
  · exact .inr ⟨a, xs, e1, e _ _ h1, h2, h3⟩
theorem ib_ints {ns : List Int} : ∀ x ∈ ns.map V.int, IB x := fun x hx => by
  obtain ⟨n, _, rfl⟩ := List.mem_map.mp hx
  exact .inl ⟨n, rfl⟩
theorem ib_app {xs ys : List V} (h : ∀ x ∈ xs, IB x) (h' : ∀ x ∈ ys, IB x) : ∀ x ∈ xs ++ ys, IB x := fun x hx => by
  rcases List.mem_append.mp hx with q | q
  · exact h x q
  · exact h' x q
theorem Thing.tup {K : PySem.W.Frag} {H : Hp} {a : Addr} {xs : List V} (h : H a = some (.tup xs)) (h1 : ∀ x ∈ xs, IB x) (h2 : xs.length ≤ 100) : Thing K H (.ref a) := .inr ⟨a, xs, rfl, h, h1, h2⟩
/-- two tuples, one after another -/
theorem cat_tup {K : PySem.W.Frag} {H : Hp} {Q : VK} {a b : Addr} {xs ys : List V} (ha : H a = some (.tup xs)) (hb : H b = some (.tup ys)) (hl : xs.length + ys.length < 10000) (k : ∀ (H' : Hp) (q : Addr), Same H H' → H' q = some (.tup (xs ++ ys)) → Q (.ref q) H') : rCatA K (.ref a) (.ref b) H Q := by
  refine ⟨a, b, xs, ys, rfl, rfl, SqT.of ha, SqT.of hb, Nat.le_of_lt (small_line (by omega)), fun e => ?_, fun _ e => ?_, fun _ _ p hp => ?_⟩
  · subst e
    exact k H b (Same.refl H) hb
  · subst e
    exact k H a (Same.refl H) (by rw [List.append_nil]; exact ha)
  · exact k _ p (same_upd hp) upd_same
theorem cut_last {xs : List V} : cutV xs none (some (-1)) = xs.take (xs.length - 1) := by
  unfold cutV
  show (xs.drop 0).take (((-1 : Int) + (xs.length : Int)).toNat - 0) = _
  rw [List.drop_zero, Nat.sub_zero, show ((-1 : Int) + (xs.length : Int)).toNat = xs.length - 1 by omega]
/-- t[:-1] -/
theorem sl_last {K : PySem.W.Frag} {H : Hp} {Q : VK} {a : Addr} {xs : List V} (ha : H a = some (.tup xs)) (h0 : 0 < xs.length) (k : ∀ (H' : Hp) (q : Addr), Same H H' → H' q = some (.tup (xs.take (xs.length - 1))) → Q (.ref q) H') : rSlA K (.ref a) none (some (-1)) H Q := by
  refine ⟨a, xs, rfl, SqT.of ha, fun z => ?_, fun _ p hp => ?_⟩
  · have z2 : ((-1 : Int) + (xs.length : Int)).toNat = xs.length := z.2
    omega
  · rw [cut_last]
    exact k _ p (same_upd hp) upd_same
end K19

set_option Elab.async false
set_option linter.all false
set_option maxRecDepth 100000
set_option maxHeartbeats 8000000
/-! The law's own body, as a term of rules. -/
namespace K19
open PySem PySem.Spec PyProof.Rows L2

def forIt : Stmt → Expr
  | .For _ it _ _ _ => it
  | _ => .Constant .none 0 ⟨0, 0, 0, 0⟩
def elts : Expr → List Expr
  | .List es _ => es
  | _ => []
def lamA : Expr → Arguments
  | .Lambda a _ _ _ => a
  | _ => defArgs s_law
def lamB : Expr → Expr
  | .Lambda _ b _ _ => b
  | e => e
def lamS : Expr → Scope
  | .Lambda _ _ s _ => s
  | _ => defScope s_law
/-- the lambda among the law's three -/
abbrev lam3 : Expr := (elts (forIt ((defBody s_law).getD 3 (.Pass ⟨0, 0, 0, 0⟩)))).getD 2 (.Constant .none 0 ⟨0, 0, 0, 0⟩)
theorem sc_lam3 : FnScope ["_law_item"] ["_law_item"] (lamS lam3) := ⟨rfl, rfl, rfl, by decide +kernel, rfl, by decide +kernel, by decide +kernel⟩
abbrev qLam : Str := "law.<locals>.<lambda>"
/-- all that the law's body calls and asks -/
structure Nds (P : Program) (w : World) (K : PySem.W.Frag) (mg : Str → Option Value) (base : Heap) (C CB CP fI : Addr) (fdI : FuncData) (gW : Addr) (fdW : FuncData) : Prop where
  blt : Blt mg
  begun : DefAt P w K mg base CX0 1 "_law_begun" a_begun (spBegun K)
  draw : DefAt P w K mg base CX0 2 "_law_draw" a_draw spDraw
  pick : DefAt P w K mg base CX0 3 "_law_pick" a_pick spPick
  any : DefAt P w K mg base CX0 7 "_law_any_house" a_any_house spAnyHouse
  ratio : DefAt P w K mg base CX0 3 "_law_ratio" a_ratio spRatio
  way : DefAt P w K mg base CX0 3 "_law_way" a_way spWay
  lare : DefAt P w K mg base CX0 2 "_law_are_signs" a_are_signs (spLawAre K)
  bare : DefAt P w K mg base CX0 3 "_law_is_bare_round" a_is_bare_round spIsBare
  round : DefAt P w K mg base CX0 4 "_law_round" a_round spRound
  truth : DefAt P w K mg base CX0 1 "_law_is_truth" a_is_truth spTruth
  bad : DefAt P w K mg base CX0 4 "_law_bad_house" a_bad_house (spBadHouse K C)
  ksigns : DefKAt P w K mg base (L2.CX P w) 5 "signs_of" a_p_signs_of (spSignsOf K C CB)
  kturn : DefKAt P w K mg base (L2.CX P w) 4 "turning_walk" a_p_turning_walk (spTurn K C CB)
  kare : DefKAt P w K mg base (L2.CX P w) 3 "are_signs" a_p_are_signs (spAre K C CB)
  signs : DefAt P w K mg base (L2.CX P w) 5 "signs_of" a_p_signs_of (spSignsOf K C CB)
  turn : DefAt P w K mg base (L2.CX P w) 4 "turning_walk" a_p_turning_walk (spTurn K C CB)
  are : DefAt P w K mg base (L2.CX P w) 3 "are_signs" a_p_are_signs (spAre K C CB)
  mkr : Mk K C fI
  init : FnOk P w K mg base CX0 5 fI fdI a_house_init (spHouseInit C)
  bI : Binds K fdI a_house_init []
  txt : HTxt K mg C
  is : HIs K mg C CB
  mP : mg "PullError" = some (.ref CP)
  exm : PySem.W.exmOne K (.ref CB) (.ref CP) = some true
  exc : ExcC K CB
  me : PySem.W.kitOne K (.ref CB) (.ref CB) = some true
  caught : Fun K "_law_caught" "_law_caught" s_caught gW fdW
  mW : mg "_law_caught" = some (.ref gW)
  bW : Binds K fdW a_caught []
theorem law_body {P : Program} {w : World} {K : PySem.W.Frag} {mg : Str → Option Value} {base : Heap} {C CB CP fI gW f c Pt : Addr} {fdI fdW : FuncData} (Z : Nds P w K mg base C CB CP fI fdI gW fdW) (TB : LamX.TabB base mg c Pt) {A : Around} {outer : List Env} {s : Shared} {H : Hp} {E : XK} {Q : VK}
    (hr : Room 7 (A.deeper (envOfC "law" (defScope s_law) s.heap.objs.size f (.ref c)))) (hg : A.guards = some []) :
    ∃ t, PSs (cxOf (L2.CX P w) P w K mg base n_law "law" (defScope s_law) f (.ref c) A outer s H E) (defBody s_law) t ∧ ∀ (a : Addr) (ns : List Int), SqL K H a (ns.map V.int) → ns.length ≤ 63 → H Pt = some (.tbl #[]) → (∀ H', Q (.bl true) H') → t { nx := fun _ H' => Q .non H', rt := Q } (start n_law [.ref a]) H := by
  have B := Z.blt
  have nd := sc_law.nd
  have hr1 : Room 1 _ := hr.mono (by decide)
  have hr2 : Room 2 _ := hr.mono (by decide)
  have hr3 : Room 3 _ := hr.mono (by decide)
  have hr4 : Room 4 _ := hr.mono (by decide)
  have hr5 : Room 5 _ := hr.mono (by decide)
  have hr6 : Room 6 _ := hr.mono (by decide)
  obtain ⟨oc, od, kV, doc, pm, an, cdv, ct, osl, rfl, lk, hcd⟩ := Z.caught.ex
  refine ⟨_, pss_cons (ps_set (i := 1) nd rfl (Or.inr rfl) (pe_def Z.begun hr1 rfl (pa_cons (pv 0) pa_nil)))
    (pss_cons (ps_for (passes_of rfl) rfl (pi_range1 rfl B.range (pa_cons pe_int pa_nil)) (pg_name (i := 2) nd rfl (Or.inl rfl))
      (pss_cons (ps_asg (pe_def Z.any hr rfl (pa_cons (pv 1) (pa_cons pe_int (pa_cons pe_int pa_nil)))) (pg_tup rfl (pgs_cons (pg_name (i := 3) nd rfl (Or.inl rfl)) (pgs_cons (pg_name (i := 4) nd rfl (Or.inr rfl)) pgs_nil))))
      (C8.pss_cut (ps_if (pt_cmpR op_eq (pe_def Z.draw hr2 rfl (pa_cons (pv 1) (pa_cons pe_int pa_nil))) pe_int (nomark _)) (pss_one (ps_set (i := 4) nd rfl (Or.inr rfl) (pe_callTy call_tuple_of (by rfl) B.tuple (by decide +kernel) (pa_cons
          (pe_lc (own := [("_law_near", 17), ("_law_first", 18), ("_law_far", 19), ("_law_second", 20)]) (tt := tYes) rfl nd (pi_tup (pv 4)) (blkOk_by (N := n_law) (sc := defScope s_law) (by decide +kernel))
            (fun _ _ _ _ _ => by exact (pgT K (n := 4) (pg_tup rfl (pgs_cons (pg_name (i := 17) nd rfl (Or.inl rfl)) (pgs_cons (pg_name (i := 18) nd rfl (Or.inl rfl)) (pgs_cons (pg_name (i := 19) nd rfl (Or.inl rfl)) (pgs_cons (pg_name (i := 20) nd rfl (Or.inl rfl)) pgs_nil))))))) (fun _ _ _ _ _ => pts_nil)
            (fun _ _ _ _ _ => by exact (pe_tup (pa_cons (pv 17) (pa_cons (pe_callB call_abs (by rfl) B.abs (by decide +kernel) (pa_cons (pv 18) pa_nil)) (pa_cons (pv 19) (pa_cons (pv 20) pa_nil))))))) pa_nil)))) pss_nil)
      (C8.pss_cut (ps_if (pt_cmpR op_eq (pe_def Z.draw hr2 rfl (pa_cons (pv 1) (pa_cons pe_int pa_nil))) pe_int (nomark _))
          (pss_cons (ps_set (i := 5) nd rfl (Or.inr rfl) (pe_lc (own := [("_law_room_here", 11)]) (g := gName 11) (tt := tYes) rfl nd (pi_range1 rfl B.range (pa_cons (pv 3) pa_nil)) (blkOk_by (N := n_law) (sc := defScope s_law) (by decide +kernel)) (fun _ _ _ _ _ => pg_name (i := 11) nd rfl (Or.inl rfl)) (fun _ _ _ _ _ => pts_nil)
            (fun _ _ _ _ _ => by exact (pe_def Z.pick hr3 rfl (pa_cons (pv 1) (pa_cons (pe_lst (pa_cons pe_int (pa_cons (pe_un un_neg pe_int) pa_nil))) pa_nil))))))
          (pss_one (ps_set (i := 4) nd rfl (Or.inr rfl) (pe_callTy call_tuple_of (by rfl) B.tuple (by decide +kernel) (pa_cons
            (pe_lc (own := [("_law_near", 17), ("_law_first", 18), ("_law_far", 19), ("_law_second", 20)]) (tt := tYes) rfl nd (pi_tup (pv 4)) (blkOk_by (N := n_law) (sc := defScope s_law) (by decide +kernel))
            (fun _ _ _ _ _ => by exact (pgT K (n := 4) (pg_tup rfl (pgs_cons (pg_name (i := 17) nd rfl (Or.inl rfl)) (pgs_cons (pg_name (i := 18) nd rfl (Or.inl rfl)) (pgs_cons (pg_name (i := 19) nd rfl (Or.inl rfl)) (pgs_cons (pg_name (i := 20) nd rfl (Or.inl rfl)) pgs_nil))))))) (fun _ _ _ _ _ => pts_nil)
            (fun _ _ _ _ _ => by exact (pe_tup (pa_cons (pv 17) (pa_cons (pe_op op_mul (pe_callB call_abs (by rfl) B.abs (by decide +kernel) (pa_cons (pv 18) pa_nil)) (pe_ix (ixL K) (pv 5) (pv 17) (fun _ _ => rfl))) (pa_cons (pv 19) (pa_cons (pe_op op_mul (pe_callB call_abs (by rfl) B.abs (by decide +kernel) (pa_cons (pv 20) pa_nil)) (pe_ix (ixL K) (pv 5) (pv 19) (fun _ _ => rfl))) pa_nil))))))) pa_nil))))) pss_nil)
      (pss_cons (ps_set (i := 6) nd rfl (Or.inl rfl) (pe_make Z.mkr Z.init hr6 rfl Z.txt.mgC Z.bI .nil pass0 (pa_cons (pv 3) (pa_cons (pv 4) pa_nil))))
      (pss_cons (ps_set (i := 7) nd rfl (Or.inl rfl) (pe_callTy call_tuple_of (by rfl) B.tuple (by decide +kernel) (pa_cons
          (pe_lc (own := [("_law_room_here", 11)]) (g := gName 11) (tt := tYes) rfl nd (pi_range1 rfl B.range (pa_cons (pv 3) pa_nil)) (blkOk_by (N := n_law) (sc := defScope s_law) (by decide +kernel)) (fun _ _ _ _ _ => pg_name (i := 11) nd rfl (Or.inl rfl)) (fun _ _ _ _ _ => pts_nil)
            (fun _ _ _ _ _ => by exact (pe_ifExp (pt_cmpR op_gt (pe_ix (ixT K) (pe_def Z.ratio hr3 rfl (pa_cons (pv 4) (pa_cons (pe_def Z.way hr3 rfl (pa_cons (pv 4) (pa_cons pe_int (pa_cons (pv 11) pa_nil)))) pa_nil))) pe_int (fun _ _ => rfl)) pe_int (nomark _)) pe_int (pe_un un_neg pe_int)))) pa_nil)))
      (pss_cons (ps_set (i := 8) nd rfl (Or.inl rfl) (pe_def Z.lare hr2 rfl (pa_cons (pv 3) (pa_cons (pv 4) (pa_cons (pv 7) pa_nil)))))
      (pss_cons (ps_par (i := 9) (j := 10) (by rfl) nd rfl rfl (by decide) rfl rfl (pa_cons (pe_defKX (takes_of rfl rfl rfl rfl) Z.ksigns hr5 rfl (pk_cons (pv 6) pk_nil)) (pa_cons (pe_defKX (takes_of rfl rfl rfl rfl) Z.kturn hr4 rfl (pk_cons (pv 6) pk_nil)) pa_nil)) (by rfl))
      (C8.pss_cut (ps_if (PW.pt (pw_or (pt_cmpR op_ne (pe_callB (cr_repr hg hr.units) (by rfl) B.repr (by decide +kernel) (pa_cons (pv 9) pa_nil)) (pe_callB (cr_repr hg hr.units) (by rfl) B.repr (by decide +kernel) (pa_cons (pe_ifExp (pt_val (pv 8)) (pv 7) pe_non) pa_nil)) (nomark _))
          (pw_or1 (pt_cmpR op_ne (pe_cmp (pc_isN (pv 10))) (pv 8) (nomark _))))) (pss_one ps_never) pss_nil)
      (C8.pss_cut (ps_if (pt_cmp (pc_notN (pv 10))) (pss_one (ps_if (PW.pt (pw_or (pt_not (pt_val (pe_def Z.bare hr3 rfl (pa_cons (pv 3) (pa_cons (pv 4) (pa_cons (pv 10) pa_nil)))))) (pw_or1 (pt_cmpR op_gt (pe_ix ix_tup (pe_def Z.ratio hr3 rfl (pa_cons (pv 4) (pa_cons (pe_ix ix_tup (pv 10) pe_int (fun _ _ => rfl)) pa_nil))) pe_int (fun _ _ => rfl)) pe_int (nomark _))))) (pss_one ps_never) pss_nil)) pss_nil)
      (pss_cons (ps_set (i := 11) nd rfl (Or.inl rfl) (pe_def Z.draw hr2 rfl (pa_cons (pv 1) (pa_cons (pv 3) pa_nil))))
      (pss_cons (ps_set (i := 12) nd rfl (Or.inl rfl) (pe_def Z.round hr4 rfl (pa_cons (pv 1) (pa_cons (pv 4) (pa_cons (pv 11) (pa_cons pe_int pa_nil))))))
      (C8.pss_cut (ps_if (PW.pt (pw_and (pt_val (pv 8)) (pw_and1 (pt_cmpR op_lt (pe_ix ix_tup (pe_def Z.ratio hr3 rfl (pa_cons (pv 4) (pa_cons (pv 12) pa_nil))) pe_int (fun _ _ => rfl)) pe_int (nomark _))))) (pss_one ps_never) pss_nil)
      (pss_cons (ps_set (i := 13) nd rfl (Or.inl rfl) (pe_lst (pa_cons (pv 7) (pa_cons (pe_callTy call_tuple_of (by rfl) B.tuple (by decide +kernel) (pa_cons
            (pe_lc (own := [("_law_item", 14)]) (g := gName 14) (tt := tYes) rfl nd (pi_tup (pv 7)) (blkOk_by (N := n_law) (sc := defScope s_law) (by decide +kernel)) (fun _ _ _ _ _ => pg_name (i := 14) nd rfl (Or.inl rfl)) (fun _ _ _ _ _ => pts_nil) (fun _ _ _ _ _ => by exact (pe_op op_sub pe_int (pv 14)))) pa_nil))
          (pa_cons (pe_callTy call_list_of (by rfl) B.list (by decide +kernel) (pa_cons (pv 7) pa_nil)) (pa_cons (pe_slice sl_tupA (pv 7) po_none (po_some (pe_un un_neg pe_int))) (pa_cons (pe_op op_catA (pv 7) (pe_tup (pa_cons pe_int pa_nil)))
          (pa_cons (pe_op op_catA (pe_slice sl_tupA (pv 7) po_none (po_some (pe_un un_neg pe_int))) (pe_tup (pa_cons pe_bl pa_nil)))
          (pa_cons (pe_op op_catA (pe_slice sl_tupA (pv 7) po_none (po_some (pe_un un_neg pe_int))) (pe_tup (pa_cons (pe_op op_sub pe_int (pe_ix ix_tup (pv 7) (pe_un un_neg pe_int) (fun _ _ => rfl))) pa_nil)))
          (pa_cons (pe_op op_rep (pe_tup (pa_cons pe_int pa_nil)) (pv 3)) pa_nil))))))))))
      (pss_one (ps_for (passes_of rfl) rfl (pi_list (pe_op op_cat (pv 13) (pe_lst (pa_cons pe_non (pa_cons pe_int (pa_cons pe_dnewK (pa_cons (pe_tup pa_nil) (pa_cons (pe_op op_catA (pe_slice sl_tupA (pv 7) po_none (po_some (pe_un un_neg pe_int))) (pe_tup (pa_cons pe_int pa_nil))) pa_nil)))))))) (pg_name (i := 14) nd rfl (Or.inl rfl))
        (pss_one (ps_if (pt_not (pt_val (pe_def Z.truth hr1 rfl (pa_cons (pe_defKX (takes_of rfl rfl rfl rfl) Z.kare hr3 rfl (pk_cons (pv 6) (pk_cons (pv 14) pk_nil))) (pa_cons (pe_def Z.lare hr2 rfl (pa_cons (pv 3) (pa_cons (pv 4) (pa_cons (pv 14) pa_nil)))) pa_nil))))) (pss_one ps_never) pss_nil))))))))))))))))))
    (pss_cons (ps_set (i := 15) nd rfl (Or.inr rfl) (pe_def Z.bad hr4 rfl (pa_cons (pv 1) pa_nil)))
    (pss_cons (ps_for (passes_of rfl) rfl (pi_list (pe_lst (pa_cons (pe_glob (v := .ref (Classical.choose Z.signs)) rfl (Classical.choose_spec (Classical.choose_spec Z.signs)).1 rfl) (pa_cons (pe_glob (v := .ref (Classical.choose Z.turn)) rfl (Classical.choose_spec (Classical.choose_spec Z.turn)).1 rfl)
          (pa_cons (pe_lamV (T := [(Pt, qLam)]) TB rfl List.mem_cons_self (fun p hp _ => by rw [List.mem_singleton.mp hp]; rfl) rfl (by decide +kernel) rfl) pa_nil))))) (pg_name (i := 16) nd rfl (Or.inr rfl))
        (pss_one (ps_if (pt_not (pt_val (pe_callB (call_isX Z.exc) (by rfl) B.isinstance (by decide +kernel) (pa_cons
            (LamX.pe_lamcall (T := [(Pt, qLam)]) (TT := TTk CB) (k := 5) (t := fun E => tWork K mg C CB 16 15 qLam (lamA lam3) (lamB lam3) (lamS lam3) (fun cls d _ H => E cls d H)) rfl Z.mW Z.caught.kp lk hcd Z.bW sc_caught rfl (Or.inl rfl) (caught_gives Z.mP Z.exm) TB rfl List.mem_cons_self (fun p hp _ => by rw [List.mem_singleton.mp hp]; rfl) hr
              (LamX.lamS_by (sc := defScope s_law) (by decide +kernel)) rfl (fun _ _ _ _ _ => rfl) (fun A outer s H E f c' hr' => pe_work (X := LamX.lamCx _ A outer s H E _ f c') (takes_of rfl rfl rfl rfl) Z.signs Z.turn hr' rfl (Or.inr (Or.inr rfl)) rfl (Or.inr (Or.inr rfl)) sc_lam3 (fun _ _ _ _ => rfl) (fun E => tCallS (spAre K C CB) (WE fun cls d _ H => E cls d H) (tCons (tVar 0) (tCons (tC .non) tNil)))
                (fun s H E f cdv hr2 => pe_defX (takes_of rfl rfl rfl rfl) Z.are (hr2.mono (by decide)) rfl (pa_cons (pv 0) (pa_cons pe_non pa_nil))) (fun E v H Q nh e => ⟨_, rfl, .inl ⟨_, _, rfl, nh, e⟩⟩)))
            (pa_cons (pe_glob (v := .ref CB) rfl Z.is.gB rfl) pa_nil))))) (pss_one ps_never) pss_nil)))
    (pss_one (ps_ret pe_bl))))), ?_⟩
  intro sc ns0 hS hn hT kQ
  refine ⟨_, rfl, sc, ns0, rfl, hS, hn, fun H1 d g cc e1 S1 => ?_⟩
  have T1 : LamX.Tabs [(Pt, qLam)] H1 := fun p hp => by
    rw [List.mem_singleton.mp hp]
    exact LamX.TabS.nil (e1 _ _ hT)
  refine ⟨_, rfl, by decide, by decide, for_range (lo := 0) (n := (4 : Int).toNat) (fun i σ H' => ∃ v2 v3 v4 v5 v6 v7 v8 v9 v10 v11 v12 v13 v14 : Option V, σ = [some (.ref sc), some (.ref d), v2, v3, v4, v5, v6, v7, v8, v9, v10, v11, v12, v13, v14, none, none, none, none, none, none] ∧ StAt d g cc (1000 * i) H' ∧ LamX.Tabs [(Pt, qLam)] H')
    ⟨none, none, none, none, none, none, none, none, none, none, none, none, none, rfl, S1, T1⟩ ?_ ?_⟩
  · rintro i σ H2 hi ⟨v2, v3, v4, v5, v6, v7, v8, v9, v10, v11, v12, v13, v14, rfl, S2, T2⟩
    have hi : i < 4 := hi
    refine ⟨_, rfl, d, g, cc, 1000 * i, rfl, S2, by omega, fun H3 q D R ds K3 S3 hq hD hH => ?_⟩
    have T3 := tabs_kp T2 S2 K3
    refine ⟨q, _, rfl, SqT.of hq, rfl, ⟨_, _, rfl, _, _, rfl, rfl, ?_⟩⟩
    -- the doors' first numbers
    refine ⟨fun σ H' => ∃ (D' : Addr) (ds' : List Dr), σ = [some (.ref sc), some (.ref d), some (.int (0 + (i : Int))), some (.int (R : Int)), some (.ref D'), v5, v6, v7, v8, v9, v10, v11, v12, v13, v14, none, none, none, none, none, none] ∧ StAt d g cc (1000 * i + 401) H' ∧ LamX.Tabs [(Pt, qLam)] H' ∧ IsDoors H' D' ds' ∧ House R ds', ?_, ?_⟩
    · refine ⟨_, rfl, d, g, cc, _, _, rfl, S3, by omega, by decide, by decide, fun H4 z K4 S4 z0 z1 => ⟨rfl, _, rfl, ite2 (fun c => ?_) (fun c => ?_)⟩⟩
      · have T4 := tabs_kp T3 S3 K4
        obtain ⟨vs, hDv, hP⟩ := hD.tk (S3.tk K4)
        have hvl : vs.length = ds.length := hP.length
        have hdl := hH.len
        refine ⟨_, rfl, D, rfl, ⟨_, SqT.of hDv⟩, fun L hL => lc_tup (K := K) (a := D) (xs := vs) (fun j H' => Same H4 H' ∧ ∃ ws : List V, H' L = some (.lst ws) ∧ Paired (IsDoor H') ws ((ds.take j).map absD)) ⟨same_upd hL, [], upd_same, .nil⟩ (fun j H' _ ⟨e, _⟩ => SqT.of (e _ _ hDv)) ?_ ?_⟩
        · rintro j x H5 hx ⟨e5, ws, hws, hPw⟩
          obtain ⟨dr, hdr, a, rfl, ha⟩ := pair_at' hP hx
          have hj := (List.getElem?_eq_some_iff.mp hx).1
          have hwl : ws.length ≤ j := by
            rw [hPw.length, List.length_map]
            exact List.length_take_le _ _
          refine ⟨a, _, rfl, SqT.of (e5 _ _ ha), rfl, ⟨_, _, rfl, _, _, rfl, _, _, rfl, _, _, rfl, rfl, rfl, ?_⟩⟩
          refine ⟨_, rfl, _, rfl, _, rfl, _, rfl, _, rfl, (by decide : 4 ≤ sizeLine), fun t ht => ?_⟩
          have e6 := same_upd (o := .tup (doorV (absD dr))) ht
          have g6 : (upd H5 t (.tup (doorV (absD dr)))) t = some (.tup (doorV (absD dr))) := upd_same
          have hws6 := e6 _ _ hws
          have tkw := tk_lst (o := .lst (ws ++ [V.ref t])) hws6
          refine ⟨ws, hws6, small_line (by omega), same_write (e5.trans e6) hL, ws ++ [V.ref t], upd_same, ?_⟩
          rw [take_more hdr, List.map_append]
          exact pair_app (doors_tk (doors_tk hPw (tk_of e6)) tkw) (.cons ⟨t, rfl, tkw.1 _ _ g6⟩ .nil)
        · rintro H5 ⟨e5, ws, hws, hPw⟩
          rw [hvl, List.take_length] at hPw
          refine ⟨L, ws, rfl, .inl ⟨SqL.of hws, fun t ht => ?_⟩⟩
          have e6 := same_upd (o := .tup ws) ht
          exact ⟨t, ds.map absD, rfl, S4.same (e5.trans e6), T4.ext (e5.trans e6), ⟨ws, upd_same, doors_tk hPw (tk_of e6)⟩, hH.map (fun _ => ⟨rfl, rfl⟩) fun _ h => absD_ok h⟩
      · exact ⟨D, ds, rfl, S4, tabs_kp T3 S3 K4, hD.tk (S3.tk K4), hH⟩
    clear hD hH S3 T3 K3 hq
    rintro σ H4 ⟨D, ds, rfl, S4, T4, hD, hH⟩
    -- the doors turned
    refine ⟨fun σ H' => ∃ (D' : Addr) (ds' : List Dr) (v5 : Option V), σ = [some (.ref sc), some (.ref d), some (.int (0 + (i : Int))), some (.int (R : Int)), some (.ref D'), v5, v6, v7, v8, v9, v10, v11, v12, v13, v14, none, none, none, none, none, none] ∧ StAt d g cc (1000 * i + 420) H' ∧ LamX.Tabs [(Pt, qLam)] H' ∧ IsDoors H' D' ds' ∧ House R ds', ?_, ?_⟩
    · refine ⟨_, rfl, d, g, cc, _, _, rfl, S4, by omega, by decide, by decide, fun H5 z K5 S5 z0 z1 => ⟨rfl, _, rfl, ite2 (fun c => ?_) (fun c => ?_)⟩⟩
      · have T5 := tabs_kp T4 S4 K5
        have hD5 := hD.tk (S4.tk K5)
        have hR7 := hH.r7
        have hR1 := hH.r1
        refine ⟨_, rfl, _, rfl, by omega, by omega, fun L hL => ?_⟩
        have en : (R : Int).toNat = R := by omega
        rw [en]
        obtain ⟨Ld, Lg⟩ := S5.ned hL
        have Lc := S5.nec hL
        have e6 := same_upd (o := .lst []) hL
        refine lc_range (lo := 0) (n := R) (fun j H' => ∃ (vs : List V) (ts : List Int), GSt IsN d g cc (1000 * i + 402 + j) L H5 H' vs ts ∧ ts.length = j ∧ ∀ x ∈ ts, x = 1 ∨ x = -1)
          ⟨[], [], ⟨kp_of e6, S5.same e6, upd_same, .nil⟩, rfl, fun x hx => by cases hx⟩ ?_ ?_
        · rintro j H6 hj ⟨vs, ts, G6, hl, hb⟩
          refine ⟨rfl, _, rfl, _, rfl, (by decide : 2 ≤ sizeLine), fun p hp => ?_⟩
          have e7 := same_upd (o := .lst (([1, -1] : List Int).map V.int)) hp
          have G7 := G6.same stable_n e7
          refine ⟨d, g, cc, p, _, ([1, -1] : List Int).map V.int, rfl, G7.st, by omega, upd_same, (G6.st.ned hp).2, by simp, by decide, fun H8 x K8 S8 hx => ?_⟩
          obtain ⟨y, hy, rfl⟩ := List.mem_map.mp hx
          have hy2 : y = 1 ∨ y = -1 := (by decide : ∀ z ∈ ([1, -1] : List Int), z = 1 ∨ z = -1) y hy
          have G8 := G7.draw stable_n Ld Lg K8 S8
          have hvl : vs.length = ts.length := G6.pr.length
          refine ⟨vs, G8.ls, small_line (by omega), vs ++ [V.int y], ts ++ [y], G8.push stable_n hL Lg Lc rfl, by rw [List.length_append, List.length_singleton, hl], fun x hx => ?_⟩
          rcases List.mem_append.mp hx with q | q
          · exact hb x q
          · rw [List.mem_singleton.mp q]
            exact hy2
        rintro H6 ⟨vsT, ts, G6, hl, hb⟩
        have T6 := tabs_kp T5 S5 G6.kp
        have hT6 : H6 L = some (.lst (ts.map V.int)) := by rw [← ns_of G6.pr]; exact G6.ls
        obtain ⟨vs, hDv, hP⟩ := hD5.tk (S5.tk G6.kp)
        have hvl : vs.length = ds.length := hP.length
        have hdl := hH.len
        refine ⟨_, rfl, D, rfl, ⟨_, SqT.of hDv⟩, fun L2 hL2 => lc_tup (K := K) (a := D) (xs := vs) (fun j H' => Same H6 H' ∧ ∃ ws : List V, H' L2 = some (.lst ws) ∧ Paired (IsDoor H') ws ((ds.take j).map (turnD ts))) ⟨same_upd hL2, [], upd_same, .nil⟩ (fun j H' _ ⟨e, _⟩ => SqT.of (e _ _ hDv)) ?_ ?_⟩
        · rintro j x H7 hx ⟨e7, ws, hws, hPw⟩
          obtain ⟨dr, hdr, a, rfl, ha⟩ := pair_at' hP hx
          obtain ⟨d1, d2, d3, d4, d5, d6, d7, d8, d9, d10⟩ := hH.ok dr (List.mem_of_getElem? hdr)
          have hj := (List.getElem?_eq_some_iff.mp hx).1
          have hwl : ws.length ≤ j := by
            rw [hPw.length, List.length_map]
            exact List.length_take_le _ _
          have p1 := getD_pm hb (i := dr.n.toNat) (by omega)
          have p2 := getD_pm hb (i := dr.r.toNat) (by omega)
          refine ⟨a, _, rfl, SqT.of (e7 _ _ ha), rfl, ⟨_, _, rfl, _, _, rfl, _, _, rfl, _, _, rfl, rfl, rfl, ?_⟩⟩
          refine ⟨_, rfl, _, rfl, _, rfl, _, rfl, _, rfl, L, _, _, _, rfl, rfl, SqL.of (e7 _ _ hT6), atI_map d1 (by omega), _, _, rfl, rfl, .inr (by rcases p1 with e | e <;> rw [e] <;> exact ⟨by decide, by decide⟩),
            _, rfl, _, rfl, _, rfl, _, rfl, _, rfl, L, _, _, _, rfl, rfl, SqL.of (e7 _ _ hT6), atI_map d3 (by omega), _, _, rfl, rfl, .inr (by rcases p2 with e | e <;> rw [e] <;> exact ⟨by decide, by decide⟩), (by decide : 4 ≤ sizeLine), fun t ht => ?_⟩
          have e8 := same_upd (o := .tup (doorV (turnD ts dr))) ht
          have g8 : (upd H7 t (.tup (doorV (turnD ts dr)))) t = some (.tup (doorV (turnD ts dr))) := upd_same
          have hws8 := e8 _ _ hws
          have tkw := tk_lst (o := .lst (ws ++ [V.ref t])) hws8
          refine ⟨ws, hws8, small_line (by omega), same_write (e7.trans e8) hL2, ws ++ [V.ref t], upd_same, ?_⟩
          rw [take_more hdr, List.map_append]
          exact pair_app (doors_tk (doors_tk hPw (tk_of e8)) tkw) (.cons ⟨t, rfl, tkw.1 _ _ g8⟩ .nil)
        · rintro H7 ⟨e7, ws, hws, hPw⟩
          rw [hvl, List.take_length] at hPw
          refine ⟨L2, ws, rfl, .inl ⟨SqL.of hws, fun t ht => ?_⟩⟩
          have e8 := same_upd (o := .tup ws) ht
          exact ⟨t, ds.map (turnD ts), _, rfl, (G6.st.same (e7.trans e8)).le (by omega), T6.ext (e7.trans e8), ⟨ws, upd_same, doors_tk hPw (tk_of e8)⟩, hH.map (fun _ => ⟨rfl, rfl⟩) fun _ h => turnD_ok h hl hb⟩
      · exact ⟨D, ds, _, rfl, S5.le (by omega), tabs_kp T4 S4 K5, hD.tk (S4.tk K5), hH⟩
    clear hD hH S4 T4
    rintro σ H5 ⟨D, ds, v5, rfl, S5, T5, hD, hH⟩
    have hR7 := hH.r7
    have hR1 := hH.r1
    have en : (R : Int).toNat = R := by omega
    -- the house
    refine ⟨_, rfl, _, rfl, fun hx dx hhx hdx hne => ?_⟩
    have ex1 := same_upd (o := .own hx) hdx
    have hhx2 : (upd H5 dx (.own hx)) hx = none := by rw [upd_ne hne.symm]; exact hhx
    have ex2 := same_upd (o := .ins C dx []) hhx2
    have ex12 := ex1.trans ex2
    refine ⟨hx, dx, D, R, ds, rfl, upd_same, hD.tk (tk_of ex12), hH, fun H6 keep hins => ⟨rfl, ?_⟩⟩
    have e56 : Same H5 H6 := fun b o hb => keep b o (ne_of_none hb hhx) (ex12 _ _ hb)
    have S6 := S5.same e56
    have T6 := T5.ext e56
    have hD6 := hD.tk (tk_of e56)
    have hI6 : IsHouse C H6 hx R ds := ⟨dx, D, hins, hD6⟩
    -- what is due
    refine ⟨_, rfl, _, rfl, by omega, by omega, fun L hL => ?_⟩
    rw [en]
    refine lc_range (lo := 0) (n := R) (fun j H' => Same H6 H' ∧ ∃ ns : List Int, H' L = some (.lst (ns.map V.int)) ∧ ns.length = j ∧ ∀ r : Nat, r < j → ∃ ps, Path ds 0 (r : Int) ps ∧ ns.getD r 0 = psgn ds ps)
      ⟨same_upd hL, [], upd_same, rfl, fun r hr => absurd hr (Nat.not_lt_zero _)⟩ ?_ ?_
    · rintro j H7 hj ⟨e7, ns, hns, hnl, hnp⟩
      have z0 : (0 : Int) + (j : Int) = (j : Int) := Int.zero_add _
      rw [z0]
      refine ⟨rfl, _, rfl, _, rfl, _, rfl, D, ds, R, 0, (j : Int), rfl, hD6.tk (tk_of e7), hH, by decide, by omega, by omega, by omega, fun H8 q ps e8 hst hp hpl => ?_⟩
      refine ⟨D, q, ds, R, ps, rfl, hD6.tk (tk_of (e7.trans e8)), hst, hH.ok, path_ok hp, fun H9 t tt bb e9 ht htn hsg => ?_⟩
      refine ⟨t, _, _, _, rfl, rfl, SqT.of ht, rfl, _, _, rfl, rfl, _, rfl, ?_⟩
      have hll : (ns.map V.int).length < sizeLine := small_line (by rw [List.length_map]; omega)
      have hns9 := (e8.trans e9) _ _ hns
      have more : ∀ y : Int, y = psgn ds ps → (upd H9 L (.lst (ns.map V.int ++ [V.int y]))) L = some (.lst ((ns ++ [y]).map V.int)) ∧ (ns ++ [y]).length = j + 1 ∧ ∀ r : Nat, r < j + 1 → ∃ ps, Path ds 0 (r : Int) ps ∧ (ns ++ [y]).getD r 0 = psgn ds ps := fun y hy => by
        refine ⟨by rw [upd_same, List.map_append]; rfl, by rw [List.length_append, List.length_singleton, hnl], fun r hr => ?_⟩
        by_cases cr : r < j
        · obtain ⟨ps', h1, h2⟩ := hnp r cr
          refine ⟨ps', h1, ?_⟩
          rw [← h2, List.getD_eq_getElem?_getD, List.getD_eq_getElem?_getD, List.getElem?_append_left (by omega)]
        · have er : r = j := by omega
          subst er
          refine ⟨ps, hp, ?_⟩
          rw [List.getD_eq_getElem?_getD, List.getElem?_append_right (by omega), hnl, Nat.sub_self, ← hy]
          rfl
      refine ite2 (fun c => ?_) (fun c => ?_)
      · have c2 : 0 < tt := by simpa using c
        obtain ⟨m1, m2, m3⟩ := more 1 (by rw [← hsg]; exact (Int.sign_eq_one_iff_pos.mpr c2).symm)
        exact ⟨_, hns9, hll, same_write ((e7.trans e8).trans e9) hL, _, m1, m2, m3⟩
      · have c2 : tt < 0 := by
          have : ¬ 0 < tt := fun z => c (by simpa using z)
          omega
        obtain ⟨m1, m2, m3⟩ := more (-1) (by rw [← hsg]; exact (Int.sign_eq_neg_one_iff_neg.mpr c2).symm)
        exact ⟨_, rfl, _, hns9, hll, same_write ((e7.trans e8).trans e9) hL, _, m1, m2, m3⟩
    rintro H7 ⟨e7, ns, hns, hnl, hnp⟩
    have hTo : Told ds R ns := ⟨hnl, hnp⟩
    have hpm := hTo.pm hH
    refine ⟨L, _, rfl, .inl ⟨SqL.of hns, fun q7 hq7 => ?_⟩⟩
    have e8 := same_upd (o := .tup (ns.map V.int)) hq7
    have g8 : (upd H7 q7 (.tup (ns.map V.int))) q7 = some (.tup (ns.map V.int)) := upd_same
    have e68 := e7.trans e8
    generalize upd H7 q7 (.tup (ns.map V.int)) = H8 at e8 g8 e68 ⊢
    have hml : (ns.map V.int).length ≤ 100 := by rw [List.length_map]; omega
    refine ⟨_, rfl, _, rfl, _, rfl, D, .ref q7, R, ds, rfl, hD6.tk (tk_of e68), hH, .inr ⟨q7, _, rfl, g8, ib_ints, hml, fun H9 b e9 hb => ?_⟩⟩
    have e69 := e68.trans e9
    -- signs told, a walk that turns
    refine ⟨_, rfl, .inr ⟨hx, R, ds, rfl, hI6.tk (tk_of e69), hH, fun HA ms v9 eA hToA hvA => ?_⟩⟩
    have e6A := e69.trans eA
    refine ⟨_, rfl, .inr ⟨hx, R, ds, rfl, hI6.tk (tk_of e6A), hH, fun HB v10 eB hvB => ?_⟩⟩
    have e6B := e6A.trans eB
    refine ⟨_, _, rfl, ?_⟩
    have g9 := e9 _ _ g8
    have gB := eB _ _ (eA _ _ g9)
    -- they agree
    refine ⟨fun σ H' => ∃ (v9 v10 : V), σ = [some (.ref sc), some (.ref d), some (.int (0 + (i : Int))), some (.int (R : Int)), some (.ref D), v5, some (.ref hx), some (.ref q7), some (.bl b), some v9, some v10, v11, v12, v13, v14, none, none, none, none, none, none] ∧ H' = HB ∧ (b = true → ∃ ε, Sgn R ε ∧ Fit ds ε) ∧ (v10 = .non ∨ ∃ q ps, v10 = .ref q ∧ IsWalk HB q 0 ps ∧ Path ds 0 0 ps ∧ ps.length ≤ 20 ∧ psgn ds ps = -1), ?_, ?_⟩
    · cases b with
      | true =>
        have hRi : Right R ds (ns.map V.int) := hb.mp rfl
        obtain ⟨ε, hs, hf⟩ := right_fit hH hRi
        obtain ⟨hRm, ems⟩ := told_right hH hTo hToA hRi
        rcases hvA with ⟨_, q9, rfl, hq9⟩ | ⟨no, _⟩
        · have e10 : v10 = .non := by
            rcases hvB with ⟨z, _⟩ | ⟨q, ps, _, _, hp, _, hneg⟩
            · exact z
            · rw [closed_one hH hs hf (by decide) (by omega) hp] at hneg
              cases hneg
          subst e10
          rw [← ems] at hq9
          refine ⟨_, rfl, .inr ⟨q9, ns, rfl, SqT.of (eB _ _ hq9), hpm, by omega, _, rfl, true, rfl, iteT ⟨_, rfl, .inr ⟨q7, ns, rfl, SqT.of gB, hpm, by omega, rfl, _, rfl, ?_⟩⟩⟩⟩
          refine if_false_of' (by simp) ⟨_, rfl, _, rfl, rfl, _, rfl, if_false_of' (by decide) ?_⟩
          exact ⟨_, _, rfl, rfl, fun _ => ⟨ε, hs, hf⟩, .inl rfl⟩
        · exact absurd hRm no
      | false =>
        have noR : ¬ Right R ds (ns.map V.int) := fun z => Bool.noConfusion (hb.mpr z)
        rcases hvA with ⟨hRm, _⟩ | ⟨_, rfl⟩
        · exact absurd (told_right hH hToA hTo hRm).1 noR
        · refine ⟨_, rfl, .inl ⟨rfl, _, rfl, false, rfl, iteF (.inl ⟨rfl, rfl, _, rfl, ?_⟩)⟩⟩
          rcases hvB with ⟨rfl, ε, hs, hf⟩ | ⟨q, ps, rfl, w1, w2, w3, w4⟩
          · exact absurd (fit_right hH hTo hs hf) noR
          · refine if_false_of' (by simp) ⟨_, rfl, _, rfl, rfl, _, rfl, if_false_of' (by simp) ?_⟩
            exact ⟨_, _, rfl, rfl, fun z => Bool.noConfusion z, .inr ⟨q, ps, rfl, w1, w2, w3, w4⟩⟩
    clear hvA hvB
    rintro σ HB ⟨v9, v10, rfl, rfl, hfit, hwalk⟩
    have hDB := hD6.tk (tk_of e6B)
    have hIB := hI6.tk (tk_of e6B)
    have SB := S6.same e6B
    have TB' := T6.ext e6B
    -- the walk that turns
    refine ⟨fun σ H' => σ = [some (.ref sc), some (.ref d), some (.int (0 + (i : Int))), some (.int (R : Int)), some (.ref D), v5, some (.ref hx), some (.ref q7), some (.bl b), some v9, some v10, v11, v12, v13, v14, none, none, none, none, none, none] ∧ Same HB H', ?_, ?_⟩
    · rcases hwalk with rfl | ⟨q, ps, rfl, w1, w2, w3, w4⟩
      · exact ⟨_, rfl, _, rfl, if_false_of' (by decide) ⟨rfl, Same.refl HB⟩⟩
      · refine ⟨_, rfl, _, rfl, if_true_of' (by simp) ?_⟩
        refine ⟨_, rfl, _, rfl, _, rfl, D, q, R, ds, ps, rfl, hDB, hH, w1, w2, w3, fun HC eC => ⟨_, rfl, iteF ?_⟩⟩
        obtain ⟨Zq, Sq, y1, y2, y3⟩ := w1.tk (tk_of eC)
        refine ⟨_, rfl, _, rfl, q, _, _, _, rfl, rfl, SqT.of y1, rfl, D, Sq, ds, R, ps, rfl, hDB.tk (tk_of eC), y3, hH.ok, path_ok w2, fun HD t tt bb eD ht htn hsg => ?_⟩
        refine ⟨t, _, _, _, rfl, rfl, SqT.of ht, rfl, _, _, rfl, rfl, _, rfl, ?_⟩
        rw [w4] at hsg
        have neg : tt < 0 := Int.sign_eq_neg_one_iff_neg.mp hsg
        exact if_false_of' (decide_eq_false (by omega)) ⟨rfl, eC.trans eD⟩
    rintro σ HC ⟨rfl, eC⟩
    clear hwalk
    -- a round
    have SC := SB.same eC
    have TC := TB'.ext eC
    refine ⟨_, rfl, _, rfl, d, g, cc, _, _, rfl, SC, by omega, by omega, by omega, fun HD rm KD SD r0 r1 => ?_⟩
    have hDD := (hDB.tk (tk_of eC)).tk (SC.tk KD)
    have TD := tabs_kp TC SC KD
    refine ⟨_, rfl, _, rfl, _, rfl, d, g, cc, D, _, R, ds, rm, rfl, SD, by omega, hDD, hH, r0, r1, fun HE q12 ps KE SE hst hp hpl => ?_⟩
    have hDE := hDD.tk (SD.tk KE)
    have TE := tabs_kp TD SD KE
    have gE := (SD.tk KE).1 _ _ ((SC.tk KD).1 _ _ (eC _ _ gB))
    have hIE := ((hIB.tk (tk_of eC)).tk (SC.tk KD)).tk (SD.tk KE)
    refine ⟨fun σ H' => σ = [some (.ref sc), some (.ref d), some (.int (0 + (i : Int))), some (.int (R : Int)), some (.ref D), v5, some (.ref hx), some (.ref q7), some (.bl b), some v9, some v10, some (.int rm), some (.ref q12), v13, v14, none, none, none, none, none, none] ∧ Same HE H', ?_, ?_⟩
    · refine ⟨_, rfl, b, rfl, ?_⟩
      cases b with
      | false => exact iteF ⟨rfl, Same.refl HE⟩
      | true =>
        refine iteT ⟨_, rfl, _, rfl, D, q12, ds, R, ps, rfl, hDE, hst, hH.ok, path_ok hp, fun HF t tt bb eF ht htn hsg => ?_⟩
        obtain ⟨ε, hs, hf⟩ := hfit rfl
        rw [closed_one hH hs hf r0 r1 hp] at hsg
        have pos : 0 < tt := Int.sign_eq_one_iff_pos.mp hsg
        refine ⟨t, _, _, _, rfl, rfl, SqT.of ht, rfl, _, _, rfl, rfl, _, rfl, ?_⟩
        exact if_false_of' (decide_eq_false (by omega)) ⟨rfl, eF⟩
    rintro σ HF ⟨rfl, eF⟩
    have SF := SE.same eF
    have TF := TE.ext eF
    have hDF := hDE.tk (tk_of eF)
    have gF := eF _ _ gE
    have hIF := hIE.tk (tk_of eF)
    have h0l : 0 < (ns.map V.int).length := by rw [List.length_map]; omega
    have lTup : PySem.W.kitOne K (.type "list") (.type "tuple") = some false := kit_ty (by decide +kernel)
    have nTup : PySem.W.kitOne K (.type "NoneType") (.type "tuple") = some false := kit_ty (by decide +kernel)
    have iTup' : PySem.W.kitOne K (.type "int") (.type "tuple") = some false := kit_ty (by decide +kernel)
    have dTup : PySem.W.kitOne K (.type "dict") (.type "tuple") = some false := kit_ty (by decide +kernel)
    have hini : ∀ x ∈ (ns.map V.int).take ((ns.map V.int).length - 1), IB x := fun x hx => ib_ints x (List.mem_of_mem_take hx)
    have hinl : ((ns.map V.int).take ((ns.map V.int).length - 1)).length ≤ 7 := by rw [List.length_take, List.length_map]; omega
    have one1 : ∀ x ∈ [V.int 1], IB x := fun x hx => .inl ⟨1, List.mem_singleton.mp hx⟩
    -- things to ask about
    refine ⟨_, rfl, _, rfl, q7, rfl, ⟨_, SqT.of gF⟩, fun L2 hL2 => lc_tup (K := K) (a := q7) (xs := ns.map V.int) (fun j H' => Same HF H' ∧ H' L2 = some (.lst (((ns.take j).map fun z => 0 - z).map V.int))) ⟨same_upd hL2, upd_same⟩ (fun j H' _ ⟨e, _⟩ => SqT.of (e _ _ gF)) ?_ ?_⟩
    · rintro j x HG hx ⟨eG, hl⟩
      obtain ⟨z, hz, rfl⟩ := map_at hx
      have hj := (List.getElem?_eq_some_iff.mp hz).1
      refine ⟨rfl, _, rfl, _, _, rfl, rfl, _, hl, small_line (by rw [List.length_map, List.length_map, List.length_take]; omega), same_write eG hL2, ?_⟩
      rw [upd_same, take_more hz, List.map_append, List.map_append]
      rfl
    rintro HG ⟨eG, hl⟩
    rw [List.length_map, List.take_length] at hl
    refine ⟨L2, _, rfl, .inl ⟨SqL.of hl, fun t2 ht2 => ?_⟩⟩
    have a2 := same_upd (o := .tup ((ns.map fun z => 0 - z).map V.int)) ht2
    have b2 : (upd HG t2 (.tup ((ns.map fun z => 0 - z).map V.int))) t2 = some (.tup ((ns.map fun z => 0 - z).map V.int)) := upd_same
    have c2 := eG.trans a2
    generalize upd HG t2 (.tup ((ns.map fun z => 0 - z).map V.int)) = X2 at a2 b2 c2 ⊢
    have h2 : Thing K X2 (.ref t2) := Thing.tup b2 ib_ints (by rw [List.length_map, List.length_map]; omega)
    refine ⟨_, rfl, q7, _, rfl, .inr (SqT.of (c2 _ _ gF)), fun t3 ht3 => ?_⟩
    have a3 := same_upd (o := .lst (ns.map V.int)) ht3
    have b3 : (upd X2 t3 (.lst (ns.map V.int))) t3 = some (.lst (ns.map V.int)) := upd_same
    have c3 := c2.trans a3
    generalize upd X2 t3 (.lst (ns.map V.int)) = X3 at a3 b3 c3 ⊢
    have h3 : Thing K X3 (.ref t3) := .inl ⟨_, .base (.lst b3), lTup⟩
    refine ⟨_, rfl, _, rfl, _, rfl, sl_last (c3 _ _ gF) h0l fun X4 t4 a4 b4 => ?_⟩
    have c4 := c3.trans a4
    have h4 : Thing K X4 (.ref t4) := Thing.tup b4 hini (by omega)
    refine ⟨_, rfl, (by decide : 1 ≤ sizeLine), fun u5 hu5 => ?_⟩
    have a5 := same_upd (o := .tup [V.int 1]) hu5
    have b5 : (upd X4 u5 (.tup [V.int 1])) u5 = some (.tup [V.int 1]) := upd_same
    have c5 := c4.trans a5
    generalize upd X4 u5 (.tup [V.int 1]) = X5 at a5 b5 c5 ⊢
    refine cat_tup (c5 _ _ gF) b5 (by rw [List.length_map]; show ns.length + 1 < 10000; omega) fun X6 t6 a6 b6 => ?_
    have c6 := c5.trans a6
    have h6 : Thing K X6 (.ref t6) := Thing.tup b6 (ib_app ib_ints one1) (by rw [List.length_append, List.length_map]; show ns.length + 1 ≤ 100; omega)
    refine ⟨_, rfl, _, rfl, _, rfl, sl_last (c6 _ _ gF) h0l fun X7 u7 a7 b7 => ?_⟩
    have c7 := c6.trans a7
    refine ⟨(by decide : 1 ≤ sizeLine), fun u8 hu8 => ?_⟩
    have a8 := same_upd (o := .tup [V.bl true]) hu8
    have b8 : (upd X7 u8 (.tup [V.bl true])) u8 = some (.tup [V.bl true]) := upd_same
    have b78 := a8 _ _ b7
    have c8 := c7.trans a8
    generalize upd X7 u8 (.tup [V.bl true]) = X8 at a8 b8 b78 c8 ⊢
    refine cat_tup b78 b8 (by show _ + 1 < 10000; omega) fun X9 t9 a9 b9 => ?_
    have c9 := c8.trans a9
    have h9 : Thing K X9 (.ref t9) := Thing.tup b9 (ib_app hini fun x hx => .inr ⟨true, List.mem_singleton.mp hx⟩) (by rw [List.length_append]; show _ + 1 ≤ 100; omega)
    refine ⟨_, rfl, _, rfl, _, rfl, sl_last (c9 _ _ gF) h0l fun Xa ua aa ba => ?_⟩
    have ca := c9.trans aa
    have hlast : atI (ns.map V.int) (-1) = some (V.int (ns.getD (ns.length - 1) 0)) := by
      rw [atI_last h0l, List.length_map, List.getElem?_map, getD_at (d := 0) (show ns.length - 1 < ns.length by omega)]
      rfl
    refine ⟨_, rfl, _, rfl, q7, _, _, _, rfl, rfl, SqT.of (ca _ _ gF), hlast, _, _, rfl, rfl, (by decide : 1 ≤ sizeLine), fun ub hub => ?_⟩
    have ab := same_upd (o := .tup [V.int (0 - ns.getD (ns.length - 1) 0)]) hub
    have bb : (upd Xa ub (.tup [V.int (0 - ns.getD (ns.length - 1) 0)])) ub = some (.tup [V.int (0 - ns.getD (ns.length - 1) 0)]) := upd_same
    have bab := ab _ _ ba
    have cb := ca.trans ab
    show rCatA K (.ref ua) (.ref ub) (upd Xa ub (.tup [V.int (0 - ns.getD (ns.length - 1) 0)])) _
    generalize upd Xa ub (.tup [V.int (0 - ns.getD (ns.length - 1) 0)]) = Xb at ab bb bab cb ⊢
    refine cat_tup bab bb (by show _ + 1 < 10000; omega) fun Xc tc ac bc => ?_
    have cc' := cb.trans ac
    have hc : Thing K Xc (.ref tc) := Thing.tup bc (ib_app hini fun x hx => .inl ⟨_, List.mem_singleton.mp hx⟩) (by rw [List.length_append]; show _ + 1 ≤ 100; omega)
    refine ⟨(by decide : 1 ≤ sizeLine), fun ud hud => ?_⟩
    have ad := same_upd (o := .tup [V.int 2]) hud
    have bd : (upd Xc ud (.tup [V.int 2])) ud = some (.tup [V.int 2]) := upd_same
    have cd := cc'.trans ad
    generalize upd Xc ud (.tup [V.int 2]) = Xd at ad bd cd ⊢
    refine ⟨_, rfl, ud, R, V.int 2, rfl, rfl, bd, hR1, by omega, fun Xe te ae be => ?_⟩
    have ce := cd.trans ae
    have he : Thing K Xe (.ref te) := Thing.tup be (fun x hx => .inl ⟨2, List.eq_of_mem_replicate hx⟩) (by rw [List.length_replicate]; omega)
    refine ⟨(by decide : 8 ≤ sizeLine), fun tf htf => ?_⟩
    have af := same_upd (o := .lst [V.ref q7, V.ref t2, V.ref t3, V.ref t4, V.ref t6, V.ref t9, V.ref tc, V.ref te]) htf
    have bf : (upd Xe tf (.lst [V.ref q7, V.ref t2, V.ref t3, V.ref t4, V.ref t6, V.ref t9, V.ref tc, V.ref te])) tf = some (.lst [V.ref q7, V.ref t2, V.ref t3, V.ref t4, V.ref t6, V.ref t9, V.ref tc, V.ref te]) := upd_same
    have cf := ce.trans af
    have ths : ∀ x ∈ [V.ref q7, V.ref t2, V.ref t3, V.ref t4, V.ref t6, V.ref t9, V.ref tc, V.ref te], Thing K (upd Xe tf (.lst [V.ref q7, V.ref t2, V.ref t3, V.ref t4, V.ref t6, V.ref t9, V.ref tc, V.ref te])) x := by
      have m9c : Same X9 Xe := ((aa.trans ab).trans ac).trans (ad.trans ae)
      have m6 : Same X6 Xe := ((a7.trans a8).trans a9).trans m9c
      have m4 : Same X4 Xe := (a5.trans a6).trans m6
      intro x hx
      simp only [List.mem_cons, List.not_mem_nil, or_false] at hx
      rcases hx with rfl | rfl | rfl | rfl | rfl | rfl | rfl | rfl
      · exact Thing.tup (cf _ _ gF) ib_ints hml
      · exact h2.same ((a3.trans a4).trans (m4.trans af))
      · exact h3.same (a4.trans (m4.trans af))
      · exact h4.same (m4.trans af)
      · exact h6.same (m6.trans af)
      · exact h9.same (m9c.trans af)
      · exact hc.same ((ad.trans ae).trans af)
      · exact he.same af
    generalize upd Xe tf (.lst [V.ref q7, V.ref t2, V.ref t3, V.ref t4, V.ref t6, V.ref t9, V.ref tc, V.ref te]) = Xf at af bf cf ths ⊢
    clear h2 h3 h4 h6 h9 hc he
    -- some more
    refine ⟨_, rfl, fun tg htg => ?_⟩
    have ag := same_upd (o := .dK []) htg
    have bg : (upd Xf tg (.dK [])) tg = some (.dK []) := upd_same
    have cg := cf.trans ag
    generalize upd Xf tg (.dK []) = Xg at ag bg cg ⊢
    have hg1 : Thing K Xg (.ref tg) := .inl ⟨_, .base (.dK bg), dTup⟩
    refine ⟨(by decide : 0 ≤ sizeLine), fun th hth => ?_⟩
    have ah := same_upd (o := .tup []) hth
    have bh : (upd Xg th (.tup [])) th = some (.tup []) := upd_same
    have ch := cg.trans ah
    generalize upd Xg th (.tup []) = Xh at ah bh ch ⊢
    have hh1 : Thing K Xh (.ref th) := Thing.tup bh (fun x hx => by cases hx) (Nat.zero_le _)
    refine ⟨_, rfl, _, rfl, _, rfl, sl_last (ch _ _ gF) h0l fun Xi ui ai bi => ?_⟩
    have ci := ch.trans ai
    refine ⟨(by decide : 1 ≤ sizeLine), fun uj huj => ?_⟩
    have aj := same_upd (o := .tup [V.int 0]) huj
    have bj : (upd Xi uj (.tup [V.int 0])) uj = some (.tup [V.int 0]) := upd_same
    have bij := aj _ _ bi
    have cj := ci.trans aj
    generalize upd Xi uj (.tup [V.int 0]) = Xj at aj bj bij cj ⊢
    refine cat_tup bij bj (by show _ + 1 < 10000; omega) fun Xk tk' ak bk => ?_
    have ck := cj.trans ak
    have hk1 : Thing K Xk (.ref tk') := Thing.tup bk (ib_app hini fun x hx => .inl ⟨0, List.mem_singleton.mp hx⟩) (by rw [List.length_append]; show _ + 1 ≤ 100; omega)
    refine ⟨(by decide : 5 ≤ sizeLine), fun tl htl => ?_⟩
    have al := same_upd (o := .lst [V.non, V.int 1, V.ref tg, V.ref th, V.ref tk']) htl
    have bl' : (upd Xk tl (.lst [V.non, V.int 1, V.ref tg, V.ref th, V.ref tk'])) tl = some (.lst [V.non, V.int 1, V.ref tg, V.ref th, V.ref tk']) := upd_same
    have cl := ck.trans al
    have mfl : Same Xf (upd Xk tl (.lst [V.non, V.int 1, V.ref tg, V.ref th, V.ref tk'])) := (((ag.trans ah).trans ai).trans (aj.trans ak)).trans al
    have thl : ∀ x ∈ [V.non, V.int 1, V.ref tg, V.ref th, V.ref tk'], Thing K (upd Xk tl (.lst [V.non, V.int 1, V.ref tg, V.ref th, V.ref tk'])) x := by
      intro x hx
      simp only [List.mem_cons, List.not_mem_nil, or_false] at hx
      rcases hx with rfl | rfl | rfl | rfl | rfl
      · exact .inl ⟨_, .base .non, nTup⟩
      · exact .inl ⟨_, .base (.int 1), iTup'⟩
      · exact hg1.same (((ah.trans ai).trans (aj.trans ak)).trans al)
      · exact hh1.same ((ai.trans (aj.trans ak)).trans al)
      · exact hk1.same al
    generalize upd Xk tl (.lst [V.non, V.int 1, V.ref tg, V.ref th, V.ref tk']) = Xl at al bl' cl mfl thl ⊢
    refine ⟨tf, tl, _, _, rfl, rfl, mfl _ _ bf, bl', (by decide : 13 ≤ sizeLine), fun tm htm => ?_⟩
    have am := same_upd (o := .lst ([V.ref q7, V.ref t2, V.ref t3, V.ref t4, V.ref t6, V.ref t9, V.ref tc, V.ref te] ++ [V.non, V.int 1, V.ref tg, V.ref th, V.ref tk'])) htm
    have bm : (upd Xl tm (.lst ([V.ref q7, V.ref t2, V.ref t3, V.ref t4, V.ref t6, V.ref t9, V.ref tc, V.ref te] ++ [V.non, V.int 1, V.ref tg, V.ref th, V.ref tk']))) tm = some (.lst ([V.ref q7, V.ref t2, V.ref t3, V.ref t4, V.ref t6, V.ref t9, V.ref tc, V.ref te] ++ [V.non, V.int 1, V.ref tg, V.ref th, V.ref tk'])) := upd_same
    have cm := cl.trans am
    have thm : ∀ x ∈ [V.ref q7, V.ref t2, V.ref t3, V.ref t4, V.ref t6, V.ref t9, V.ref tc, V.ref te] ++ [V.non, V.int 1, V.ref tg, V.ref th, V.ref tk'], Thing K (upd Xl tm (.lst ([V.ref q7, V.ref t2, V.ref t3, V.ref t4, V.ref t6, V.ref t9, V.ref tc, V.ref te] ++ [V.non, V.int 1, V.ref tg, V.ref th, V.ref tk']))) x := fun x hx => by
      rcases List.mem_append.mp hx with q | q
      · exact (ths x q).same (mfl.trans am)
      · exact (thl x q).same am
    generalize [V.ref q7, V.ref t2, V.ref t3, V.ref t4, V.ref t6, V.ref t9, V.ref tc, V.ref te] ++ [V.non, V.int 1, V.ref tg, V.ref th, V.ref tk'] = things at am bm cm thm ⊢
    generalize upd Xl tm (.lst things) = Xm at am bm cm thm ⊢
    have hIm := hIF.tk (tk_of cm)
    have hDm := hDF.tk (tk_of cm)
    refine ⟨tm, rfl, ⟨_, SqL.of bm⟩, for_list (K := K) (a := tm) (xs := things) (fun j σ H' => ∃ w14 : Option V, σ = [some (.ref sc), some (.ref d), some (.int (0 + (i : Int))), some (.int (R : Int)), some (.ref D), v5, some (.ref hx), some (.ref q7), some (.bl b), some v9, some v10, some (.int rm), some (.ref q12), some (.ref tf), w14, none, none, none, none, none, none] ∧ Same Xm H')
      ⟨_, rfl, Same.refl _⟩ (fun j σ H' _ ⟨_, _, e⟩ => SqL.of (e _ _ bm)) ?_ ?_⟩
    · rintro j x σ H' hjx ⟨w14, rfl, e'⟩
      have th := (thm x (List.mem_of_getElem? hjx)).same e'
      rcases th with no | ⟨a, xs, rfl, ha, hib, hxl⟩
      · refine ⟨_, rfl, _, rfl, .inr ⟨hx, x, R, ds, rfl, hIm.tk (tk_of e'), hH, .inl ⟨no, ?_⟩⟩⟩
        refine ⟨_, rfl, _, rfl, _, rfl, D, x, R, ds, rfl, hDm.tk (tk_of e'), hH, .inl ⟨no, ?_⟩⟩
        exact ⟨false, false, rfl, _, rfl, iteF ⟨_, rfl, e'⟩⟩
      · refine ⟨_, rfl, _, rfl, .inr ⟨hx, .ref a, R, ds, rfl, hIm.tk (tk_of e'), hH, .inr ⟨a, xs, rfl, ha, hib, hxl, fun Y1 b1 f1 hb1 => ?_⟩⟩⟩
        refine ⟨_, rfl, _, rfl, _, rfl, D, .ref a, R, ds, rfl, hDm.tk (tk_of (e'.trans f1)), hH, .inr ⟨a, xs, rfl, f1 _ _ ha, hib, hxl, fun Y2 b2' f2 hb2 => ?_⟩⟩
        have eb : b1 = b2' := Bool.eq_iff_iff.mpr (hb1.trans hb2.symm)
        subst eb
        refine ⟨b1, b1, rfl, _, rfl, if_false_of' (by rw [decide_eq_true rfl]; rfl) ⟨_, rfl, (e'.trans f1).trans f2⟩⟩
    · rintro σ H' ⟨w14, rfl, e'⟩
      exact ⟨_, _, _, _, _, _, _, _, _, _, _, _, _, rfl, (SF.same (cm.trans e')).le (by omega), TF.ext (cm.trans e')⟩
  · rintro σ H2 ⟨v2, v3, v4, v5, v6, v7, v8, v9, v10, v11, v12, v13, v14, rfl, S2, T2⟩
    refine ⟨_, rfl, d, g, cc, _, rfl, S2.le (show 1000 * (4 : Int).toNat ≤ 4000 by decide), by decide, fun H3 v K3 S3 nh => ?_⟩
    have T3 := tabs_kp T2 S2 K3
    refine ⟨T3, fun fl H4 ext4 T4 isl => ⟨(by decide : 3 ≤ sizeLine), fun L hL => ?_⟩⟩
    have e5 := same_upd (o := .lst [V.ref (Classical.choose Z.signs), V.ref (Classical.choose Z.turn), V.ref fl]) hL
    have g5 : (upd H4 L (.lst [V.ref (Classical.choose Z.signs), V.ref (Classical.choose Z.turn), V.ref fl])) L = some (.lst [V.ref (Classical.choose Z.signs), V.ref (Classical.choose Z.turn), V.ref fl]) := upd_same
    have nh5 := (nh.ext ext4).ext (LamX.ExtN.of e5)
    have T5 := T4.ext e5
    have isl5 := isl.ext (LamX.ExtN.of e5)
    generalize upd H4 L (.lst [V.ref (Classical.choose Z.signs), V.ref (Classical.choose Z.turn), V.ref fl]) = H5 at e5 g5 nh5 T5 isl5 ⊢
    refine ⟨L, rfl, ⟨_, SqL.of g5⟩, for_list (K := K) (a := L) (xs := [V.ref (Classical.choose Z.signs), V.ref (Classical.choose Z.turn), V.ref fl]) (fun j σ H' => ∃ w16 : Option V, σ = [some (.ref sc), some (.ref d), v2, v3, v4, v5, v6, v7, v8, v9, v10, v11, v12, v13, v14, some v, w16, none, none, none, none] ∧ LamX.Tabs [(Pt, qLam)] H' ∧ NoHouse K C H' v ∧ IsLam H' fl qLam (lamA lam3) (lamB lam3) (lamS lam3) ∧ H' L = some (.lst [V.ref (Classical.choose Z.signs), V.ref (Classical.choose Z.turn), V.ref fl]))
      ⟨none, rfl, T5, nh5, isl5, g5⟩ (fun j σ H' _ ⟨_, _, _, _, _, h⟩ => SqL.of h) ?_ ?_⟩
    · rintro j x σ H6 hx ⟨w16, rfl, T6, nh6, isl6, g6⟩
      obtain ⟨fx, rfl, who⟩ : ∃ fx : Addr, x = .ref fx ∧ (mg "signs_of" = some (.ref fx) ∨ mg "turning_walk" = some (.ref fx) ∨ fx = fl) := by
        match j, hx with
        | 0, hx => exact ⟨_, (Option.some.inj hx).symm, .inl (Classical.choose_spec (Classical.choose_spec Z.signs)).1⟩
        | 1, hx => exact ⟨_, (Option.some.inj hx).symm, .inr (.inl (Classical.choose_spec (Classical.choose_spec Z.turn)).1)⟩
        | 2, hx => exact ⟨_, (Option.some.inj hx).symm, .inr (.inr rfl)⟩
        | n + 3, hx => simp at hx
      refine ⟨T6, fun H7 ext7 T7 Q0 => ?_⟩
      have isl7 := isl6.ext ext7
      refine ⟨fx, v, rfl, rfl, nh6.ext ext7, ?_, rfl, rfl, fun e he => ?_⟩
      · rcases who with z | z | z
        · exact .inl z
        · exact .inr (.inl z)
        · rw [z]
          exact .inr (.inr isl7)
      · have e8 := same_upd (o := ExT (.ref CB) e) he
        refine ⟨e, true, rfl, upd_same, Z.me, _, rfl, iteF ⟨_, rfl, T7.ext e8, (nh6.ext ext7).ext (LamX.ExtN.of e8), isl7.ext (LamX.ExtN.of e8), e8 _ _ (ext7 _ _ g6 (fun ps z => by cases z))⟩⟩
    · rintro σ H6 ⟨w16, rfl, T6, nh6, isl6, g6⟩
      exact kQ _
end K19

set_option Elab.async false
set_option linter.all false
set_option maxRecDepth 100000
set_option maxHeartbeats 0
/-! The head: what stands behind the top. -/
namespace K19
open PySem PySem.Spec PyProof.Rows L2

def d_p_is_number : He.DefD := ⟨("is_number", none), "is_number", "is_number", defArgs s_p_is_number, defBody s_p_is_number, defScope s_p_is_number, [], []⟩
def d_p_is_below : He.DefD := ⟨("is_below", none), "is_below", "is_below", defArgs s_p_is_below, defBody s_p_is_below, defScope s_p_is_below, [], []⟩
def d_p_is_door : He.DefD := ⟨("is_door", none), "is_door", "is_door", defArgs s_p_is_door, defBody s_p_is_door, defScope s_p_is_door, [], []⟩
def d_p_are_doors : He.DefD := ⟨("are_doors", none), "are_doors", "are_doors", defArgs s_p_are_doors, defBody s_p_are_doors, defScope s_p_are_doors, [], []⟩
def d_p_joined_rooms : He.DefD := ⟨("joined_rooms", none), "joined_rooms", "joined_rooms", defArgs s_p_joined_rooms, defBody s_p_joined_rooms, defScope s_p_joined_rooms, [], []⟩
def d_p_need_house : He.DefD := ⟨("need_house", none), "need_house", "need_house", defArgs s_p_need_house, defBody s_p_need_house, defScope s_p_need_house, [], []⟩
def d_p_gate_of : He.DefD := ⟨("gate_of", none), "gate_of", "gate_of", defArgs s_p_gate_of, defBody s_p_gate_of, defScope s_p_gate_of, [], []⟩
def d_p_lowest : He.DefD := ⟨("lowest", none), "lowest", "lowest", defArgs s_p_lowest, defBody s_p_lowest, defScope s_p_lowest, [], []⟩
def d_p_ratio_over : He.DefD := ⟨("ratio_over", none), "ratio_over", "ratio_over", defArgs s_p_ratio_over, defBody s_p_ratio_over, defScope s_p_ratio_over, [], []⟩
def d_p_bare_walk : He.DefD := ⟨("bare_walk", none), "bare_walk", "bare_walk", defArgs s_p_bare_walk, defBody s_p_bare_walk, defScope s_p_bare_walk, [], []⟩
def d_p_ways_out : He.DefD := ⟨("ways_out", none), "ways_out", "ways_out", defArgs s_p_ways_out, defBody s_p_ways_out, defScope s_p_ways_out, [], []⟩
def d_p_turned : He.DefD := ⟨("turned", none), "turned", "turned", defArgs s_p_turned, defBody s_p_turned, defScope s_p_turned, [], []⟩
def d_p_rounds_of : He.DefD := ⟨("rounds_of", none), "rounds_of", "rounds_of", defArgs s_p_rounds_of, defBody s_p_rounds_of, defScope s_p_rounds_of, [], []⟩
def d_p_signs_right : He.DefD := ⟨("signs_right", none), "signs_right", "signs_right", defArgs s_p_signs_right, defBody s_p_signs_right, defScope s_p_signs_right, [], []⟩
def d_p_told_signs : He.DefD := ⟨("told_signs", none), "told_signs", "told_signs", defArgs s_p_told_signs, defBody s_p_told_signs, defScope s_p_told_signs, [], []⟩
def d_p_are_signs : He.DefD := ⟨("are_signs", none), "are_signs", "are_signs", defArgs s_p_are_signs, defBody s_p_are_signs, defScope s_p_are_signs, [], []⟩
def d_p_signs_of : He.DefD := ⟨("signs_of", none), "signs_of", "signs_of", defArgs s_p_signs_of, defBody s_p_signs_of, defScope s_p_signs_of, [], []⟩
def d_p_turning_walk : He.DefD := ⟨("turning_walk", none), "turning_walk", "turning_walk", defArgs s_p_turning_walk, defBody s_p_turning_walk, defScope s_p_turning_walk, [], []⟩
def d_begun : He.DefD := ⟨("_law_begun", none), "_law_begun", "_law_begun", defArgs s_begun, defBody s_begun, defScope s_begun, [], []⟩
def d_blended : He.DefD := ⟨("_law_blended", none), "_law_blended", "_law_blended", defArgs s_blended, defBody s_blended, defScope s_blended, [], []⟩
def d_draw : He.DefD := ⟨("_law_draw", none), "_law_draw", "_law_draw", defArgs s_draw, defBody s_draw, defScope s_draw, [], []⟩
def d_pick : He.DefD := ⟨("_law_pick", none), "_law_pick", "_law_pick", defArgs s_pick, defBody s_pick, defScope s_pick, [], []⟩
def d_mixed : He.DefD := ⟨("_law_mixed", none), "_law_mixed", "_law_mixed", defArgs s_mixed, defBody s_mixed, defScope s_mixed, [], []⟩
def d_caught : He.DefD := ⟨("_law_caught", none), "_law_caught", "_law_caught", defArgs s_caught, defBody s_caught, defScope s_caught, [], []⟩
def d_is_truth : He.DefD := ⟨("_law_is_truth", none), "_law_is_truth", "_law_is_truth", defArgs s_is_truth, defBody s_is_truth, defScope s_is_truth, [], []⟩
def d_is_whole : He.DefD := ⟨("_law_is_whole", none), "_law_is_whole", "_law_is_whole", defArgs s_is_whole, defBody s_is_whole, defScope s_is_whole, [], []⟩
def d_common : He.DefD := ⟨("_law_common", none), "_law_common", "_law_common", defArgs s_common, defBody s_common, defScope s_common, [], []⟩
def d_multiple : He.DefD := ⟨("_law_multiple", none), "_law_multiple", "_law_multiple", defArgs s_multiple, defBody s_multiple, defScope s_multiple, [], []⟩
def d_size : He.DefD := ⟨("_law_size", none), "_law_size", "_law_size", defArgs s_size, defBody s_size, defScope s_size, [], []⟩
def d_doors : He.DefD := ⟨("_law_doors", none), "_law_doors", "_law_doors", defArgs s_doors, defBody s_doors, defScope s_doors, [], []⟩
def d_gate : He.DefD := ⟨("_law_gate", none), "_law_gate", "_law_gate", defArgs s_gate, defBody s_gate, defScope s_gate, [], []⟩
def d_steps : He.DefD := ⟨("_law_steps", none), "_law_steps", "_law_steps", defArgs s_steps, defBody s_steps, defScope s_steps, [], []⟩
def d_sides : He.DefD := ⟨("_law_sides", none), "_law_sides", "_law_sides", defArgs s_sides, defBody s_sides, defScope s_sides, [], []⟩
def d_end : He.DefD := ⟨("_law_end", none), "_law_end", "_law_end", defArgs s_end, defBody s_end, defScope s_end, [], []⟩
def d_way : He.DefD := ⟨("_law_way", none), "_law_way", "_law_way", defArgs s_way, defBody s_way, defScope s_way, [], []⟩
def d_is_walk : He.DefD := ⟨("_law_is_walk", none), "_law_is_walk", "_law_is_walk", defArgs s_is_walk, defBody s_is_walk, defScope s_is_walk, [], []⟩
def d_house : He.DefD := ⟨("_law_house", none), "_law_house", "_law_house", defArgs s_house, defBody s_house, defScope s_house, [], []⟩
def d_fitting_doors : He.DefD := ⟨("_law_fitting_doors", none), "_law_fitting_doors", "_law_fitting_doors", defArgs s_fitting_doors, defBody s_fitting_doors, defScope s_fitting_doors, [], []⟩
def d_any_house : He.DefD := ⟨("_law_any_house", none), "_law_any_house", "_law_any_house", defArgs s_any_house, defBody s_any_house, defScope s_any_house, [], []⟩
def d_lowest : He.DefD := ⟨("_law_lowest", none), "_law_lowest", "_law_lowest", defArgs s_lowest, defBody s_lowest, defScope s_lowest, [], []⟩
def d_ratio : He.DefD := ⟨("_law_ratio", none), "_law_ratio", "_law_ratio", defArgs s_ratio, defBody s_ratio, defScope s_ratio, [], []⟩
def d_round : He.DefD := ⟨("_law_round", none), "_law_round", "_law_round", defArgs s_round, defBody s_round, defScope s_round, [], []⟩
def d_is_bare_round : He.DefD := ⟨("_law_is_bare_round", none), "_law_is_bare_round", "_law_is_bare_round", defArgs s_is_bare_round, defBody s_is_bare_round, defScope s_is_bare_round, [], []⟩
def d_bad_house : He.DefD := ⟨("_law_bad_house", none), "_law_bad_house", "_law_bad_house", defArgs s_bad_house, defBody s_bad_house, defScope s_bad_house, [], []⟩
def d_are_signs : He.DefD := ⟨("_law_are_signs", none), "_law_are_signs", "_law_are_signs", defArgs s_are_signs, defBody s_are_signs, defScope s_are_signs, [], []⟩
def d_law : He.DefD := ⟨("law", none), "law", "law", defArgs s_law, defBody s_law, defScope s_law, [], []⟩
def d_house_init : He.DefD := ⟨("House", some "__init__"), "__init__", "House.__init__", defArgs s_house_init, defBody s_house_init, defScope s_house_init, [], []⟩
def hdDefs1 : List He.DefD := [d_p_is_number, d_p_is_below, d_p_is_door, d_p_are_doors, d_p_joined_rooms, d_p_need_house, d_p_gate_of, d_p_lowest, d_p_ratio_over, d_p_bare_walk, d_p_ways_out, d_p_turned, d_p_rounds_of, d_p_signs_right, d_p_told_signs, d_p_are_signs, d_p_signs_of, d_p_turning_walk, d_begun, d_blended, d_draw, d_pick, d_mixed, d_caught]
def hdDefs2 : List He.DefD := [d_is_truth, d_is_whole, d_common, d_multiple, d_size, d_doors, d_gate, d_steps, d_sides, d_end, d_way, d_is_walk, d_house, d_fitting_doors, d_any_house, d_lowest, d_ratio, d_round, d_is_bare_round, d_bad_house, d_are_signs, d_law, d_house_init]
def hdDefs : List He.DefD := hdDefs1 ++ hdDefs2
def hdFa0 : List He.Fa := [.glo "is_number", .glo "is_below", .glo "is_door", .glo "are_doors", .glo "joined_rooms", .glo "need_house", .glo "gate_of", .glo "lowest", .glo "ratio_over", .glo "bare_walk", .glo "ways_out", .glo "turned", .glo "rounds_of", .glo "signs_right", .glo "told_signs", .glo "are_signs", .glo "signs_of", .glo "turning_walk", .glo "_law_begun", .glo "_law_blended", .glo "_law_draw", .glo "_law_pick", .glo "_law_mixed", .glo "_law_caught", .glo "_law_is_truth", .glo "_law_is_whole", .glo "_law_common", .glo "_law_multiple", .glo "_law_size", .glo "_law_doors"]
def hdFa1 : List He.Fa := [.glo "_law_gate", .glo "_law_steps", .glo "_law_sides", .glo "_law_end", .glo "_law_way", .glo "_law_is_walk", .glo "_law_house", .glo "_law_fitting_doors", .glo "_law_any_house", .glo "_law_lowest", .glo "_law_ratio", .glo "_law_round", .glo "_law_is_bare_round", .glo "_law_bad_house", .glo "_law_are_signs", .glo "law", .glo "House", .glo "PullError", .glo "BadHouse", .free "isinstance", .free "len", .free "all", .free "abs", .free "int", .free "bool", .free "tuple", .free "list", .free "range", .free "enumerate", .free "reversed"]
def hdFa2 : List He.Fa := [.free "repr", .int "MOST_ROOMS" 12, .int "MOST_DOORS" 20, .int "GREATEST" 999, .cls "House", .noat "House" "rooms", .noat "House" "doors", .mkr "House", .exc "BadHouse", .exm "BadHouse" "PullError" true]
def hdFa : List He.Fa := hdFa0 ++ hdFa1 ++ hdFa2
/-- what else is asked of the written part -/
def hdEx (K : PySem.W.Frag) : Bool :=
  decide (PySem.W.nsIn K mainGlobals "gcd" = some (some (.builtin "math.gcd"))) &&
  (decide (PySem.W.findIn K (.ref (He.ga K "House")) "__class__" = some (some (.builtin "object.__class__"))) &&
  (decide (PySem.W.specialIn K (.builtin "object.__class__") "__get__" = some (some (.builtin "getset_descriptor.__get__"))) &&
  (decide (PySem.W.takesIn K (.builtin "object.__class__") = some true) &&
  (decide (PySem.W.mroIn K (He.ga K "House") (.type "object") = some true) &&
  (decide (PySem.W.kitOne K (.ref (He.ga K "House")) (.ref (He.ga K "House")) = some true) &&
  ((["NoneType", "int", "bool", "str", "list", "tuple", "dict"].all fun t => decide (PySem.W.kitOne K (.type t) (.ref (He.ga K "House")) = some false)) &&
  (decide (PySem.W.findIn K (.ref (He.ga K "BadHouse")) "__getattribute__" = some (some (.builtin "BaseException.__getattribute__"))) &&
  (decide (PySem.W.findIn K (.ref (He.ga K "BadHouse")) "__getattr__" = some none) &&
  (PySem.W.hasDictIn K (He.ga K "BadHouse") &&
  (decide (PySem.W.findIn K (.ref (He.ga K "BadHouse")) "__class__" = some (some (.builtin "object.__class__"))) &&
  (decide (PySem.W.mroIn K (He.ga K "BadHouse") (.type "object") = some true) &&
  decide (PySem.W.kitOne K (.ref (He.ga K "BadHouse")) (.ref (He.ga K "BadHouse")) = some true))))))))))))
def hdLoose0 : List PySem.Str := ["is_number", "is_below", "PullError", "Apart", "BadDoors", "BadHouse", "BadRooms", "MOST_ROOMS", "MOST_DOORS", "GREATEST", "is_door", "are_doors", "joined_rooms", "need_house", "gate_of", "lowest", "ratio_over", "bare_walk", "ways_out", "turned", "rounds_of", "signs_right", "told_signs", "are_signs", "signs_of", "turning_walk", "House", "_law_begun", "_law_blended", "_law_draw"]
def hdLoose1 : List PySem.Str := ["_law_pick", "_law_mixed", "_law_caught", "_law_is_truth", "_law_is_whole", "_law_common", "_law_multiple", "_law_size", "_law_doors", "_law_gate", "_law_steps", "_law_sides", "_law_end", "_law_way", "_law_is_walk", "_law_house", "_law_fitting_doors", "_law_any_house", "_law_lowest", "_law_ratio", "_law_round", "_law_is_bare_round", "_law_bad_house", "_law_are_signs"]
def hdLoose : List PySem.Str := hdLoose0 ++ hdLoose1
abbrev hdR : PySem.W.OpenRow := PySem.W.OpenLaw.row PySem.Challenge.rw_pulledrooms_k19_whole_signs_or_a_turning
abbrev hdQ : Program := PySem.W.view hdR.prog [0, 60]
abbrev hdH : PySem.W.Hook := He.hookX 6 hdFa hdDefs [] [("law", none)] hdEx
def hdOb (s : PySem.W.SharedT) : He.AlX := He.obsX 6 hdFa hdDefs [] [("law", none)] hdEx (HandSHeadRun.getT s)
theorem hdOb_eq (s : PySem.W.SharedT) : hdOb s = hdH.obs s.abs := He.obsX_eq (HandSHeadRun.getT_eq s)
theorem hdRun (w : World) : HandSHeadRun.RunEqI hdR hdQ hdH hdOb 6000 hdLoose w := by
  unfold HandSHeadRun.RunEqI
  kernel_rfl
end K19

set_option Elab.async false
set_option linter.all false
set_option maxRecDepth 100000
set_option maxHeartbeats 4000000
/-! From the head's facts to all that the law's body needs. -/
namespace K19
open PySem PySem.Spec PyProof.Rows L2

theorem fun_of {K : PySem.W.Frag} {x qual : Str} {st : Stmt} {f : Addr} {fd : FuncData} (F : FunD K x qual (defArgs st) (defBody st) (defScope st) [] [] f fd) : Fun K x qual st f fd := by
  obtain ⟨oc, od, dV, kV, doc, pm, an, cdv, ct, osl, rfl, lk, hcd, hD, hK⟩ := F.ex
  rcases hD with ⟨_, rfl⟩ | ⟨e, _⟩
  · exact ⟨⟨oc, od, kV, doc, pm, an, cdv, ct, osl, rfl, lk, hcd⟩, F.kp⟩
  · exact absurd rfl e
section
variable {P : Program} {w : World} {K : PySem.W.Frag} {mg : Str → Option Value} {base h : Heap}
theorem at_of {CX : CXT} {k : Nat} {x : Str} {st : Stmt} {ps : List Str} {sp : Sp} {f : Addr} {fd : FuncData} (F : FunD K x x (defArgs st) (defBody st) (defScope st) [] [] f fd) (g : mg x = some (.ref f))
    (bind : ∀ (kV doc pm : Value) (an : Option Addr) (cdv ct : Value) (us : List Value), us.length = ps.length → bindArgs (PySem.W.fnOf x x (defArgs st) (defBody st) (defScope st) .none kV doc pm an cdv ct) ⟨us, []⟩ = pure (ps.zip us)) (ok : ∀ F : Fun K x x st f fd, FnOk P w K mg base CX k f fd ps sp) : DefAt P w K mg base CX k x ps sp :=
  ⟨f, fd, g, F.kp, F.bindsN bind, ok (fun_of F)⟩
theorem kat_of {CX : CXT} {k : Nat} {x : Str} {st : Stmt} {ps : List Str} {sp : Sp} {f : Addr} {fd : FuncData} (F : FunD K x x (defArgs st) (defBody st) (defScope st) [] [] f fd) (g : mg x = some (.ref f))
    (bind : ∀ (kV doc pm : Value) (an : Option Addr) (cdv ct : Value) (us : List Value), us.length = ps.length → bindArgs (PySem.W.fnOf x x (defArgs st) (defBody st) (defScope st) .none kV doc pm an cdv ct) ⟨[], ps.zip us⟩ = pure (ps.zip us)) (ok : ∀ F : Fun K x x st f fd, FnOk P w K mg base CX k f fd ps sp) : DefKAt P w K mg base CX k x ps sp := by
  obtain ⟨⟨oc, od, kV, doc, pm, an, cdv, ct, osl, rfl, lk, hcd⟩, kp⟩ := fun_of F
  exact ⟨f, _, g, kp, fun s ws hl => .of_eq (bind kV doc pm an cdv ct ws hl), ok (fun_of F)⟩
end
/-- what the head tells, by name -/
structure Tells (K : PySem.W.Frag) (mg : Str → Option Value) : Prop where
  d : He.SaysD hdFa hdDefs K
  ex : hdEx K = true
theorem nds {P : Program} {w : World} {K : PySem.W.Frag} {mg : Str → Option Value} {h : Heap} (X : K.In h) (G : h.Ns mainGlobals mg) (c : He.SaysD hdFa hdDefs K) (ce : hdEx K = true) : ∃ (fI gW : Addr) (fdI fdW : FuncData), ∀ base : Heap, Nds P w K mg base (He.ga K "House") (He.ga K "BadHouse") (He.ga K "PullError") fI fdI gW fdW := by
  have gl : ∀ (i : Nat) (x : Str), hdFa[i]? = some (.glo x) → mg x = some (.ref (He.ga K x)) := fun i x e => He.glo_ok X G (c.fact i e)
  have fr : ∀ (i : Nat) (x : Str), hdFa[i]? = some (.free x) → mg x = none := fun i x e => He.free_ok X G (c.fact i e)
  have ba2 : ∀ {a b : Bool}, (a && b) = true → a = true ∧ b = true := fun z => Bool.and_eq_true_iff.mp z
  obtain ⟨x1, ce⟩ := ba2 ce
  obtain ⟨x2, ce⟩ := ba2 ce
  obtain ⟨x3, ce⟩ := ba2 ce
  obtain ⟨x4, ce⟩ := ba2 ce
  obtain ⟨x5, ce⟩ := ba2 ce
  obtain ⟨x6, ce⟩ := ba2 ce
  obtain ⟨x7, ce⟩ := ba2 ce
  obtain ⟨x8, ce⟩ := ba2 ce
  obtain ⟨x9, ce⟩ := ba2 ce
  obtain ⟨xa, ce⟩ := ba2 ce
  obtain ⟨xb, ce⟩ := ba2 ce
  obtain ⟨xc, xd⟩ := ba2 ce
  have hgcd : mg "gcd" = some (.builtin "math.gcd") := PySem.W.mg_of X G (of_decide_eq_true x1)
  have tys := List.all_eq_true.mp x7
  have KT : KTy K (He.ga K "House") := ⟨of_decide_eq_true (tys _ (by decide)), of_decide_eq_true (tys _ (by decide)), of_decide_eq_true (tys _ (by decide)), of_decide_eq_true (tys _ (by decide)), of_decide_eq_true (tys _ (by decide)), of_decide_eq_true (tys _ (by decide)), of_decide_eq_true (tys _ (by decide))⟩
  have B : Blt mg := ⟨fr 49 _ rfl, fr 50 _ rfl, fr 51 _ rfl, fr 52 _ rfl, fr 53 _ rfl, fr 54 _ rfl, fr 55 _ rfl, fr 56 _ rfl, fr 57 _ rfl, fr 58 _ rfl, fr 59 _ rfl, fr 60 _ rfl⟩
  have Cst : Consts mg := ⟨He.int_ok X G (c.fact 61 rfl), He.int_ok X G (c.fact 62 rfl), He.int_ok X G (c.fact 63 rfl)⟩
  have T : HTxt K mg (He.ga K "House") := ⟨He.cls_ok (c.fact 64 rfl), He.noat_ok (c.fact 65 rfl), He.noat_ok (c.fact 66 rfl), gl 46 _ rfl⟩
  have MK := He.mkr_ok (c.fact 67 (f := .mkr "House") rfl)
  obtain ⟨q1, q2, q3, q4⟩ := He.exc_ok (c.fact 68 (f := .exc "BadHouse") rfl)
  have QE := He.exm_ok (c.fact 69 (f := .exm "BadHouse" "PullError" true) rfl)
  have IS : HIs K mg (He.ga K "House") (He.ga K "BadHouse") := ⟨of_decide_eq_true x2, of_decide_eq_true x3, of_decide_eq_true x4, of_decide_eq_true x5, of_decide_eq_true x6, ⟨_, _, _, PySem.F.excBase_ValueError, q1⟩, gl 48 _ rfl, q2, q3, q4⟩
  have EC : ExcC K (He.ga K "BadHouse") := ⟨of_decide_eq_true x8, of_decide_eq_true x9, q3, xa, of_decide_eq_true xb, of_decide_eq_true x3, of_decide_eq_true x4, of_decide_eq_true xc⟩
  obtain ⟨fd_is_number, F_is_number⟩ := c.def_ 0 (d := d_p_is_number) rfl
  obtain ⟨fd_is_below, F_is_below⟩ := c.def_ 1 (d := d_p_is_below) rfl
  obtain ⟨fd_is_door, F_is_door⟩ := c.def_ 2 (d := d_p_is_door) rfl
  obtain ⟨fd_are_doors, F_are_doors⟩ := c.def_ 3 (d := d_p_are_doors) rfl
  obtain ⟨fd_joined_rooms, F_joined_rooms⟩ := c.def_ 4 (d := d_p_joined_rooms) rfl
  obtain ⟨fd_need_house, F_need_house⟩ := c.def_ 5 (d := d_p_need_house) rfl
  obtain ⟨fd_gate_of, F_gate_of⟩ := c.def_ 6 (d := d_p_gate_of) rfl
  obtain ⟨fd_lowest, F_lowest⟩ := c.def_ 7 (d := d_p_lowest) rfl
  obtain ⟨fd_ratio_over, F_ratio_over⟩ := c.def_ 8 (d := d_p_ratio_over) rfl
  obtain ⟨fd_bare_walk, F_bare_walk⟩ := c.def_ 9 (d := d_p_bare_walk) rfl
  obtain ⟨fd_ways_out, F_ways_out⟩ := c.def_ 10 (d := d_p_ways_out) rfl
  obtain ⟨fd_turned, F_turned⟩ := c.def_ 11 (d := d_p_turned) rfl
  obtain ⟨fd_rounds_of, F_rounds_of⟩ := c.def_ 12 (d := d_p_rounds_of) rfl
  obtain ⟨fd_signs_right, F_signs_right⟩ := c.def_ 13 (d := d_p_signs_right) rfl
  obtain ⟨fd_told_signs, F_told_signs⟩ := c.def_ 14 (d := d_p_told_signs) rfl
  obtain ⟨fd_are_signs, F_are_signs⟩ := c.def_ 15 (d := d_p_are_signs) rfl
  obtain ⟨fd_signs_of, F_signs_of⟩ := c.def_ 16 (d := d_p_signs_of) rfl
  obtain ⟨fd_turning_walk, F_turning_walk⟩ := c.def_ 17 (d := d_p_turning_walk) rfl
  obtain ⟨fd__law_begun, F__law_begun⟩ := c.def_ 18 (d := d_begun) rfl
  obtain ⟨fd__law_blended, F__law_blended⟩ := c.def_ 19 (d := d_blended) rfl
  obtain ⟨fd__law_draw, F__law_draw⟩ := c.def_ 20 (d := d_draw) rfl
  obtain ⟨fd__law_pick, F__law_pick⟩ := c.def_ 21 (d := d_pick) rfl
  obtain ⟨fd__law_mixed, F__law_mixed⟩ := c.def_ 22 (d := d_mixed) rfl
  obtain ⟨fd__law_caught, F__law_caught⟩ := c.def_ 23 (d := d_caught) rfl
  obtain ⟨fd__law_is_truth, F__law_is_truth⟩ := c.def_ 24 (d := d_is_truth) rfl
  obtain ⟨fd__law_is_whole, F__law_is_whole⟩ := c.def_ 25 (d := d_is_whole) rfl
  obtain ⟨fd__law_common, F__law_common⟩ := c.def_ 26 (d := d_common) rfl
  obtain ⟨fd__law_multiple, F__law_multiple⟩ := c.def_ 27 (d := d_multiple) rfl
  obtain ⟨fd__law_size, F__law_size⟩ := c.def_ 28 (d := d_size) rfl
  obtain ⟨fd__law_doors, F__law_doors⟩ := c.def_ 29 (d := d_doors) rfl
  obtain ⟨fd__law_gate, F__law_gate⟩ := c.def_ 30 (d := d_gate) rfl
  obtain ⟨fd__law_steps, F__law_steps⟩ := c.def_ 31 (d := d_steps) rfl
  obtain ⟨fd__law_sides, F__law_sides⟩ := c.def_ 32 (d := d_sides) rfl
  obtain ⟨fd__law_end, F__law_end⟩ := c.def_ 33 (d := d_end) rfl
  obtain ⟨fd__law_way, F__law_way⟩ := c.def_ 34 (d := d_way) rfl
  obtain ⟨fd__law_is_walk, F__law_is_walk⟩ := c.def_ 35 (d := d_is_walk) rfl
  obtain ⟨fd__law_house, F__law_house⟩ := c.def_ 36 (d := d_house) rfl
  obtain ⟨fd__law_fitting_doors, F__law_fitting_doors⟩ := c.def_ 37 (d := d_fitting_doors) rfl
  obtain ⟨fd__law_any_house, F__law_any_house⟩ := c.def_ 38 (d := d_any_house) rfl
  obtain ⟨fd__law_lowest, F__law_lowest⟩ := c.def_ 39 (d := d_lowest) rfl
  obtain ⟨fd__law_ratio, F__law_ratio⟩ := c.def_ 40 (d := d_ratio) rfl
  obtain ⟨fd__law_round, F__law_round⟩ := c.def_ 41 (d := d_round) rfl
  obtain ⟨fd__law_is_bare_round, F__law_is_bare_round⟩ := c.def_ 42 (d := d_is_bare_round) rfl
  obtain ⟨fd__law_bad_house, F__law_bad_house⟩ := c.def_ 43 (d := d_bad_house) rfl
  obtain ⟨fd__law_are_signs, F__law_are_signs⟩ := c.def_ 44 (d := d_are_signs) rfl
  obtain ⟨fd_init, F_init⟩ := c.def_ 46 (d := d_house_init) rfl
  refine ⟨He.ma K (He.ga K "House") "__init__", He.ga K "_law_caught", fd_init, fd__law_caught, fun base => ?_⟩
  have d_is_number : DefAt P w K mg base CX0 1 "is_number" a_p_is_number spWhole := at_of (st := s_p_is_number) (f := He.ga K "is_number") F_is_number (gl 0 _ rfl) (fun _ _ _ _ _ _ us hl => match us, hl with | [_], _ => rfl) fun F => ok_is_number F B
  have d_is_below : DefAt P w K mg base CX0 2 "is_below" a_p_is_below spBelow := at_of (st := s_p_is_below) (f := He.ga K "is_below") F_is_below (gl 1 _ rfl) (fun _ _ _ _ _ _ us hl => match us, hl with | [_, _], _ => rfl) fun F => ok_is_below F d_is_number
  have d_is_door : DefAt P w K mg base CX0 3 "is_door" a_p_is_door spIsDoor := at_of (st := s_p_is_door) (f := He.ga K "is_door") F_is_door (gl 2 _ rfl) (fun _ _ _ _ _ _ us hl => match us, hl with | [_, _], _ => rfl) fun F => ok_is_door F B Cst d_is_number d_is_below
  have d_are_doors : DefAt P w K mg base CX0 4 "are_doors" a_p_are_doors spAreDoors := at_of (st := s_p_are_doors) (f := He.ga K "are_doors") F_are_doors (gl 3 _ rfl) (fun _ _ _ _ _ _ us hl => match us, hl with | [_, _], _ => rfl) fun F => ok_are_doors F B Cst d_is_door
  have d_joined_rooms : DefAt P w K mg base CX0 1 "joined_rooms" a_p_joined_rooms spJoined := at_of (st := s_p_joined_rooms) (f := He.ga K "joined_rooms") F_joined_rooms (gl 4 _ rfl) (fun _ _ _ _ _ _ us hl => match us, hl with | [_], _ => rfl) fun F => ok_joined F B
  have d_need_house : DefAt P w K mg base (L2.CX P w) 1 "need_house" a_p_need_house (spNeed K (He.ga K "House") (He.ga K "BadHouse")) := at_of (st := s_p_need_house) (f := He.ga K "need_house") F_need_house (gl 5 _ rfl) (fun _ _ _ _ _ _ us hl => match us, hl with | [_], _ => rfl) fun F => ok_need F B T IS
  have d_gate_of : DefAt P w K mg base CX0 1 "gate_of" a_p_gate_of (spGateOf (He.ga K "House")) := at_of (st := s_p_gate_of) (f := He.ga K "gate_of") F_gate_of (gl 6 _ rfl) (fun _ _ _ _ _ _ us hl => match us, hl with | [_, _], _ => rfl) fun F => ok_gate_of F T
  have d_lowest : DefAt P w K mg base CX0 2 "lowest" a_p_lowest spLow := at_of (st := s_p_lowest) (f := He.ga K "lowest") F_lowest (gl 7 _ rfl) (fun _ _ _ _ _ _ us hl => match us, hl with | [_, _], _ => rfl) fun F => ok_p_lowest F hgcd
  have d_ratio_over : DefAt P w K mg base CX0 3 "ratio_over" a_p_ratio_over (spRatioOver (He.ga K "House")) := at_of (st := s_p_ratio_over) (f := He.ga K "ratio_over") F_ratio_over (gl 8 _ rfl) (fun _ _ _ _ _ _ us hl => match us, hl with | [_, _], _ => rfl) fun F => ok_ratio_over F d_gate_of d_lowest
  have d_bare_walk : DefAt P w K mg base CX0 1 "bare_walk" a_p_bare_walk spBare := at_of (st := s_p_bare_walk) (f := He.ga K "bare_walk") F_bare_walk (gl 9 _ rfl) (fun _ _ _ _ _ _ us hl => match us, hl with | [_, _], _ => rfl) fun F => ok_bare_walk F B
  have d_ways_out : DefAt P w K mg base CX0 2 "ways_out" a_p_ways_out (spWaysOut (He.ga K "House")) := at_of (st := s_p_ways_out) (f := He.ga K "ways_out") F_ways_out (gl 10 _ rfl) (fun _ _ _ _ _ _ us hl => match us, hl with | [_], _ => rfl) fun F => ok_ways_out F B T d_gate_of
  have d_turned : DefAt P w K mg base CX0 1 "turned" a_p_turned spTurned := at_of (st := s_p_turned) (f := He.ga K "turned") F_turned (gl 11 _ rfl) (fun _ _ _ _ _ _ us hl => match us, hl with | [_], _ => rfl) fun F => ok_turned F B
  have d_rounds_of : DefAt P w K mg base CX0 3 "rounds_of" a_p_rounds_of (spRounds (He.ga K "House")) := at_of (st := s_p_rounds_of) (f := He.ga K "rounds_of") F_rounds_of (gl 12 _ rfl) (fun _ _ _ _ _ _ us hl => match us, hl with | [_], _ => rfl) fun F => ok_rounds F B T d_ways_out d_bare_walk d_turned
  have d_signs_right : DefAt P w K mg base CX0 2 "signs_right" a_p_signs_right (spRightS K (He.ga K "House")) := at_of (st := s_p_signs_right) (f := He.ga K "signs_right") F_signs_right (gl 13 _ rfl) (fun _ _ _ _ _ _ us hl => match us, hl with | [_, _], _ => rfl) fun F => ok_signs_right F B T d_is_number
  have d_told_signs : DefAt P w K mg base CX0 4 "told_signs" a_p_told_signs (spTold (He.ga K "House")) := at_of (st := s_p_told_signs) (f := He.ga K "told_signs") F_told_signs (gl 14 _ rfl) (fun _ _ _ _ _ _ us hl => match us, hl with | [_], _ => rfl) fun F => ok_told F B T d_ways_out d_ratio_over d_signs_right
  have d_are_signs : DefAt P w K mg base (L2.CX P w) 3 "are_signs" a_p_are_signs (spAre K (He.ga K "House") (He.ga K "BadHouse")) := at_of (st := s_p_are_signs) (f := He.ga K "are_signs") F_are_signs (gl 15 _ rfl) (fun _ _ _ _ _ _ us hl => match us, hl with | [_, _], _ => rfl) fun F => ok_p_are_signs F d_need_house d_signs_right
  have d_signs_of : DefAt P w K mg base (L2.CX P w) 5 "signs_of" a_p_signs_of (spSignsOf K (He.ga K "House") (He.ga K "BadHouse")) := at_of (st := s_p_signs_of) (f := He.ga K "signs_of") F_signs_of (gl 16 _ rfl) (fun _ _ _ _ _ _ us hl => match us, hl with | [_], _ => rfl) fun F => ok_p_signs_of F d_need_house d_told_signs
  have d_turning_walk : DefAt P w K mg base (L2.CX P w) 4 "turning_walk" a_p_turning_walk (spTurn K (He.ga K "House") (He.ga K "BadHouse")) := at_of (st := s_p_turning_walk) (f := He.ga K "turning_walk") F_turning_walk (gl 17 _ rfl) (fun _ _ _ _ _ _ us hl => match us, hl with | [_], _ => rfl) fun F => ok_p_turning F d_need_house d_rounds_of d_ratio_over
  have d__law_begun : DefAt P w K mg base CX0 1 "_law_begun" a_begun (spBegun K) := at_of (st := s_begun) (f := He.ga K "_law_begun") F__law_begun (gl 18 _ rfl) (fun _ _ _ _ _ _ us hl => match us, hl with | [_], _ => rfl) fun F => ok_begun F B
  have d__law_blended : DefAt P w K mg base CX0 1 "_law_blended" a_blended spBlended := at_of (st := s_blended) (f := He.ga K "_law_blended") F__law_blended (gl 19 _ rfl) (fun _ _ _ _ _ _ us hl => match us, hl with | [_], _ => rfl) fun F => ok_blended F B
  have d__law_draw : DefAt P w K mg base CX0 2 "_law_draw" a_draw spDraw := at_of (st := s_draw) (f := He.ga K "_law_draw") F__law_draw (gl 20 _ rfl) (fun _ _ _ _ _ _ us hl => match us, hl with | [_, _], _ => rfl) fun F => ok_draw F B d__law_blended
  have d__law_pick : DefAt P w K mg base CX0 3 "_law_pick" a_pick spPick := at_of (st := s_pick) (f := He.ga K "_law_pick") F__law_pick (gl 21 _ rfl) (fun _ _ _ _ _ _ us hl => match us, hl with | [_, _], _ => rfl) fun F => ok_pick F B d__law_draw
  have d__law_mixed : DefAt P w K mg base CX0 3 "_law_mixed" a_mixed (spMixed K) := at_of (st := s_mixed) (f := He.ga K "_law_mixed") F__law_mixed (gl 22 _ rfl) (fun _ _ _ _ _ _ us hl => match us, hl with | [_, _], _ => rfl) fun F => ok_mixed F B d__law_draw
  have d__law_is_truth : DefAt P w K mg base CX0 1 "_law_is_truth" a_is_truth spTruth := at_of (st := s_is_truth) (f := He.ga K "_law_is_truth") F__law_is_truth (gl 24 _ rfl) (fun _ _ _ _ _ _ us hl => match us, hl with | [_, _], _ => rfl) fun F => ok_is_truth F
  have d__law_is_whole : DefAt P w K mg base CX0 1 "_law_is_whole" a_is_whole spWhole := at_of (st := s_is_whole) (f := He.ga K "_law_is_whole") F__law_is_whole (gl 25 _ rfl) (fun _ _ _ _ _ _ us hl => match us, hl with | [_], _ => rfl) fun F => ok_is_whole F B
  have d__law_common : DefAt P w K mg base CX0 1 "_law_common" a_common spCommon := at_of (st := s_common) (f := He.ga K "_law_common") F__law_common (gl 26 _ rfl) (fun _ _ _ _ _ _ us hl => match us, hl with | [_, _], _ => rfl) fun F => ok_common F B
  have d__law_multiple : DefAt P w K mg base CX0 2 "_law_multiple" a_multiple spMultiple := at_of (st := s_multiple) (f := He.ga K "_law_multiple") F__law_multiple (gl 27 _ rfl) (fun _ _ _ _ _ _ us hl => match us, hl with | [_], _ => rfl) fun F => ok_multiple F B d__law_common
  have d__law_size : DefAt P w K mg base CX0 4 "_law_size" a_size spSize := at_of (st := s_size) (f := He.ga K "_law_size") F__law_size (gl 28 _ rfl) (fun _ _ _ _ _ _ us hl => match us, hl with | [_], _ => rfl) fun F => ok_size F d__law_pick
  have d__law_doors : DefAt P w K mg base CX0 5 "_law_doors" a_doors spDoors := at_of (st := s_doors) (f := He.ga K "_law_doors") F__law_doors (gl 29 _ rfl) (fun _ _ _ _ _ _ us hl => match us, hl with | [_, _, _], _ => rfl) fun F => ok_doors F B d__law_draw d__law_size d__law_mixed
  have d__law_gate : DefAt P w K mg base CX0 1 "_law_gate" a_gate spGate := at_of (st := s_gate) (f := He.ga K "_law_gate") F__law_gate (gl 30 _ rfl) (fun _ _ _ _ _ _ us hl => match us, hl with | [_, _], _ => rfl) fun F => ok_gate F B
  have d__law_sides : DefAt P w K mg base CX0 1 "_law_sides" a_sides spSides := at_of (st := s_sides) (f := He.ga K "_law_sides") F__law_sides (gl 32 _ rfl) (fun _ _ _ _ _ _ us hl => match us, hl with | [_], _ => rfl) fun F => ok_sides F B
  have d__law_steps : DefAt P w K mg base CX0 2 "_law_steps" a_steps spSteps := at_of (st := s_steps) (f := He.ga K "_law_steps") F__law_steps (gl 31 _ rfl) (fun _ _ _ _ _ _ us hl => match us, hl with | [_, _], _ => rfl) fun F => ok_steps F B d__law_sides d__law_gate
  have d__law_end : DefAt P w K mg base CX0 2 "_law_end" a_end spEnd := at_of (st := s_end) (f := He.ga K "_law_end") F__law_end (gl 33 _ rfl) (fun _ _ _ _ _ _ us hl => match us, hl with | [_, _], _ => rfl) fun F => ok_end F d__law_gate
  have d__law_way : DefAt P w K mg base CX0 3 "_law_way" a_way spWay := at_of (st := s_way) (f := He.ga K "_law_way") F__law_way (gl 34 _ rfl) (fun _ _ _ _ _ _ us hl => match us, hl with | [_, _, _], _ => rfl) fun F => ok_way F B d__law_steps d__law_gate
  have d__law_is_walk : DefAt P w K mg base CX0 2 "_law_is_walk" a_is_walk spIsWalk := at_of (st := s_is_walk) (f := He.ga K "_law_is_walk") F__law_is_walk (gl 35 _ rfl) (fun _ _ _ _ _ _ us hl => match us, hl with | [_, _, _], _ => rfl) fun F => ok_is_walk F B d__law_is_whole d__law_gate
  have d__law_house : DefAt P w K mg base CX0 6 "_law_house" a_house spHouse := at_of (st := s_house) (f := He.ga K "_law_house") F__law_house (gl 36 _ rfl) (fun _ _ _ _ _ _ us hl => match us, hl with | [_, _, _], _ => rfl) fun F => ok_house F d__law_draw d__law_doors
  have d__law_fitting_doors : DefAt P w K mg base CX0 4 "_law_fitting_doors" a_fitting_doors spFitting := at_of (st := s_fitting_doors) (f := He.ga K "_law_fitting_doors") F__law_fitting_doors (gl 37 _ rfl) (fun _ _ _ _ _ _ us hl => match us, hl with | [_, _, _], _ => rfl) fun F => ok_fitting F B d__law_draw d__law_pick d__law_mixed d__law_multiple
  have d__law_any_house : DefAt P w K mg base CX0 7 "_law_any_house" a_any_house spAnyHouse := at_of (st := s_any_house) (f := He.ga K "_law_any_house") F__law_any_house (gl 38 _ rfl) (fun _ _ _ _ _ _ us hl => match us, hl with | [_, _, _], _ => rfl) fun F => ok_any_house F d__law_draw d__law_house d__law_fitting_doors
  have d__law_lowest : DefAt P w K mg base CX0 2 "_law_lowest" a_lowest spLow := at_of (st := s_lowest) (f := He.ga K "_law_lowest") F__law_lowest (gl 39 _ rfl) (fun _ _ _ _ _ _ us hl => match us, hl with | [_, _], _ => rfl) fun F => ok_lowest F d__law_common
  have d__law_ratio : DefAt P w K mg base CX0 3 "_law_ratio" a_ratio spRatio := at_of (st := s_ratio) (f := He.ga K "_law_ratio") F__law_ratio (gl 40 _ rfl) (fun _ _ _ _ _ _ us hl => match us, hl with | [_, _], _ => rfl) fun F => ok_ratio F d__law_gate d__law_lowest
  have d__law_round : DefAt P w K mg base CX0 4 "_law_round" a_round spRound := at_of (st := s_round) (f := He.ga K "_law_round") F__law_round (gl 41 _ rfl) (fun _ _ _ _ _ _ us hl => match us, hl with | [_, _, _, _], _ => rfl) fun F => ok_round F B d__law_draw d__law_steps d__law_pick d__law_gate d__law_way
  have d__law_is_bare_round : DefAt P w K mg base CX0 3 "_law_is_bare_round" a_is_bare_round spIsBare := at_of (st := s_is_bare_round) (f := He.ga K "_law_is_bare_round") F__law_is_bare_round (gl 42 _ rfl) (fun _ _ _ _ _ _ us hl => match us, hl with | [_, _, _], _ => rfl) fun F => ok_is_bare F d__law_is_walk d__law_end
  have d__law_bad_house : DefAt P w K mg base CX0 4 "_law_bad_house" a_bad_house (spBadHouse K (He.ga K "House")) := at_of (st := s_bad_house) (f := He.ga K "_law_bad_house") F__law_bad_house (gl 43 _ rfl) (fun _ _ _ _ _ _ us hl => match us, hl with | [_], _ => rfl) fun F => ok_bad_house F KT d__law_pick
  have d__law_are_signs : DefAt P w K mg base CX0 2 "_law_are_signs" a_are_signs (spLawAre K) := at_of (st := s_are_signs) (f := He.ga K "_law_are_signs") F__law_are_signs (gl 44 _ rfl) (fun _ _ _ _ _ _ us hl => match us, hl with | [_, _, _], _ => rfl) fun F => ok_law_are F B d__law_is_whole
  exact {
    blt := B, begun := d__law_begun, draw := d__law_draw, pick := d__law_pick, any := d__law_any_house, ratio := d__law_ratio, way := d__law_way, lare := d__law_are_signs, bare := d__law_is_bare_round, round := d__law_round, truth := d__law_is_truth, bad := d__law_bad_house
    ksigns := kat_of (st := s_p_signs_of) (f := He.ga K "signs_of") F_signs_of (gl 16 _ rfl) (fun _ _ _ _ _ _ us hl => match us, hl with | [_], _ => rfl) fun F => ok_p_signs_of F d_need_house d_told_signs
    kturn := kat_of (st := s_p_turning_walk) (f := He.ga K "turning_walk") F_turning_walk (gl 17 _ rfl) (fun _ _ _ _ _ _ us hl => match us, hl with | [_], _ => rfl) fun F => ok_p_turning F d_need_house d_rounds_of d_ratio_over
    kare := kat_of (st := s_p_are_signs) (f := He.ga K "are_signs") F_are_signs (gl 15 _ rfl) (fun _ _ _ _ _ _ us hl => match us, hl with | [_, _], _ => rfl) fun F => ok_p_are_signs F d_need_house d_signs_right
    signs := d_signs_of, turn := d_turning_walk, are := d_are_signs, mkr := MK
    init := ok_house_init (fun_of (st := s_house_init) (f := He.ma K (He.ga K "House") "__init__") F_init) B Cst T d_is_number d_are_doors d_joined_rooms
    bI := FunD.bindsN (x := "__init__") (qual := "House.__init__") (params := defArgs s_house_init) (body := defBody s_house_init) (scope := defScope s_house_init) (kws := []) F_init (fun _ _ _ _ _ _ us hl => match us, hl with | [_, _, _], _ => rfl)
    txt := T, is := IS, mP := gl 47 _ rfl, exm := QE, exc := EC, me := of_decide_eq_true xd
    caught := fun_of (st := s_caught) (f := He.ga K "_law_caught") F__law_caught, mW := gl 23 _ rfl
    bW := FunD.bindsN (x := "_law_caught") (qual := "_law_caught") (params := defArgs s_caught) (body := defBody s_caught) (scope := defScope s_caught) (kws := []) F__law_caught (fun _ _ _ _ _ _ us hl => match us, hl with | [_], _ => rfl) }
end K19

set_option Elab.async false
set_option linter.all false
set_option maxRecDepth 100000
set_option maxHeartbeats 4000000
/-! The law's call, from the state behind the top. -/
namespace K19
open PySem PySem.Spec PyProof.Rows L2

/-- what the law's def is in the written part -/
structure LawFn (K : PySem.W.Frag) (fa c : Addr) (fd : FuncData) : Prop where
  ex : ∃ (oc : Value) (od : Option Addr) (kV doc pm : Value) (an : Option Addr) (ct : Value) (osl : Array (Option Value)),
    fd = PySem.W.fnOf "law" "law" (defArgs s_law) (defBody s_law) (defScope s_law) .none kV doc pm an (.ref c) ct ∧ K.lookup fa = some ⟨oc, od, .func fd, osl⟩ ∧ PySem.W.codeIn K (.ref c) "law" = true
abbrev emptyT : Obj := { cls := .none, data := .fields #[] }
abbrev listO (vs : List Value) : Obj := { cls := .type "list", data := .seq vs.toArray }
theorem law_core {P : Program} {w : World} {K : PySem.W.Frag} {mg mb : Str → Option Value} {C CB CP fI gW fa a c Pt : Addr} {fdI fdW fd : FuncData} {z : Shared} {vs : List Value} {ns : List Int} {H : Hp}
    (kin : K.In z.heap) (glob : z.heap.Ns mainGlobals mg) (blt : z.heap.Ns builtinsNs mb) (bltE : ∀ x : Str, x ≠ "__name__" → mb x = bootBuiltins x) (lim : z.heap.NoLimit) (gens : z.gens = #[]) (tab : z.heap.get? Pt = some emptyT) (tabK : K.lookup Pt = none) (head : PySem.W.codeHdIn K c Pt = true)
    (bmod : ∃ (bm : Addr) (ob : Obj), mg "__builtins__" = some (.ref bm) ∧ bm ≠ builtinsNs ∧ z.heap.get? bm = some ob ∧ ob.cls = .type "module" ∧ ob.dict = some builtinsNs ∧ ob.data = .plain) (script : z.heap.get? a = some (listO vs)) (few : ns.length ≤ 63)
    (Z : ∀ base : Heap, Nds P w K mg base C CB CP fI fdI gW fdW) (F : LawFn K fa c fd) (h1 : H Pt = some (.tbl #[])) (h2 : SqL K H a (ns.map V.int)) (h3 : HOk P w H z.heap)
    (h4 : ∀ b u, H b = some u → (b = Pt ∧ u = .tbl #[]) ∨ (b = a ∧ K.lookup a = none ∧ ∃ ob xs, u = .frz ob (.lst xs))) :
    codeAny (model P w) callerA (.call (.ref fa) ⟨[.ref a], []⟩) (fun r z' => r = .ok (.ret (.bool true)) ∧ OldK z.heap z'.heap ∧ z'.os = z.os ∧ AllBare z'.gens) z := by
  obtain ⟨oc, od, kV, doc, pm, an, ct, osl, rfl, lk, hcd⟩ := F.ex
  -- what is neither the table nor the script is not tracked
  have off : ∀ {b : Addr} {o : Obj}, z.heap.get? b = some o → o.data ≠ .fields #[] → (∀ its n, o.data ≠ .seq its n) → H b = none := fun {b o} e n1 n2 => by
    cases q : H b with
    | none => rfl
    | some u =>
      rcases h4 b u q with ⟨e', _⟩ | ⟨e', _⟩
      · rw [e', tab] at e
        exact absurd rfl (by rw [← Option.some.inj e] at n1; exact n1)
      · rw [e', script] at e
        exact absurd rfl (by rw [← Option.some.inj e] at n2; exact n2 _ _)
  have dict : ∀ {b : Addr} {m : Str → Option Value}, z.heap.Ns b m → (hidT z.heap H).Ns b m := fun {b m} ⟨o, es, ep, e, isD, r⟩ =>
    ⟨o, es, ep, hidT_get e (off e (by rw [isD]; intro q; cases q) (fun its n => by rw [isD]; intro q; cases q)), isD, r⟩
  have kin2 : K.In (hidT z.heap H) := fun b o e => hidT_get (kin b o e) (by
    cases q : H b with
    | none => rfl
    | some u =>
      rcases h4 b u q with ⟨e', _⟩ | ⟨e', nk, _⟩
      · rw [e', tabK] at e
        cases e
      · rw [e', nk] at e
        cases e)
  have mod2 : L2.Mod K mg (hidT z.heap H) := ⟨kin2, dict glob, ⟨mb, dict blt, bltE⟩, by
    obtain ⟨mc, l1, l2⟩ := lim
    exact ⟨mc, dict l1, l2⟩⟩
  have TB : LamX.TabB (hidT z.heap H) mg c Pt := by
    refine ⟨PySem.W.codeHd_of_K kin2 head, ?_, fun q => ?_⟩
    · obtain ⟨bm, ob, m1, m2, m3, m4, m5, m6⟩ := bmod
      have notG : bm ≠ mainGlobals := fun q => by
        obtain ⟨o, es, ep, e, isD, _⟩ := glob
        rw [q, e] at m3
        cases m3
        rw [isD] at m6
        cases m6
      have notT : bm ≠ Pt := fun q => by
        rw [q, tab] at m3
        cases m3
        cases m6
      exact ⟨bm, ob, m1, m2, notG, notT, hidT_get m3 (off m3 (by rw [m6]; intro q; cases q) (fun its n => by rw [m6]; intro q; cases q)), m4, m5, m6⟩
    · obtain ⟨o, es, ep, e, isD, _⟩ := glob
      rw [q, tab] at e
      cases e
      cases isD
  have env : Env0 P w K mg (hidT z.heap H) callerA [] z H := ⟨rfl, mod2, fun b o e => of_hidT e, Nat.le_of_eq (hidT_size _ _), trivial, fun b hb => absurd hb List.not_mem_nil, h3, .of_eq gens⟩
  have room : Room 8 callerA := ⟨rfl, by decide, by decide⟩
  refine codeAny_mono (LamX.run_ofS (CX := L2.CX P w) (N := n_law) (ps := a_law) (us := [.ref a]) (vs := [.ref a]) (Q := fun v _ => v = .bl true) (E := fun _ _ _ => False) lk hcd sc_law room env (.of_eq rfl) (.cons rfl .nil) rfl fun hr => ?_) fun r z' hz => ?_
  · obtain ⟨t, body, reads⟩ := law_body (f := fa) (A := callerA) (outer := []) (s := z) (H := H) (E := fun _ _ _ => False) (Q := fun v _ => v = .bl true) (Z (hidT z.heap H)) TB hr rfl
    exact ⟨t, body, reads a ns h2 few h1 fun _ => rfl⟩
  · cases r with
    | error e =>
      obtain ⟨_, _, _, _, _, _, _, _, _, _, _, _, no⟩ := hz
      exact no.elim
    | ok fl =>
      cases fl with
      | next => exact False.elim hz
      | brk => exact False.elim hz
      | cont => exact False.elim hz
      | ret u =>
        obtain ⟨v, H', os, bare, un, ok', rel, q⟩ := hz
        have q : v = .bl true := q
        subst q
        obtain rfl : u = Value.bool true := rel
        obtain ⟨more, grown⟩ := un.tbls Pt #[] h1
        have tab' : z'.heap.get? Pt = some { cls := .none, data := .fields (#[] ++ more) } := ok' Pt _ grown
        have kept : ∀ b o, b ≠ Pt → z.heap.get? b = some o → z'.heap.get? b = some o := fun b o nb e => by
          cases qb : H b with
          | none => exact un.keep b o e qb (fun q => absurd q List.not_mem_nil) List.not_mem_nil
          | some u =>
            rcases h4 b u qb with ⟨e', _⟩ | ⟨_, _, ob, xs, rfl⟩
            · exact absurd e' nb
            · have a1 := (h3 b _ qb).1
              have a2 := (ok' b _ (un.frzs b ob _ qb)).1
              rw [a1] at e
              rw [← Option.some.inj e]
              exact a2
        refine ⟨rfl, ⟨fun b o e => ?_, fun b o e => ?_⟩, os, bare⟩
        · by_cases hb : b = Pt
          · subst hb
            rw [tab] at e
            cases e
            exact .inr (.inl ⟨((PySem.W.codeHd_of_K kin head).tab tab).isCodeTable, rfl, #[], more, rfl, tab'⟩)
          · exact .inl (kept b o hb e)
        · by_cases hb : b = Pt
          · subst hb
            exact ⟨_, tab'⟩
          · exact ⟨o, kept b o hb e⟩
theorem law_run {P : Program} {w : World} {K : PySem.W.Frag} {mg mb : Str → Option Value} {C CB CP fI gW fa a c Pt : Addr} {fdI fdW fd : FuncData} {z : Shared} {vs : List Value} {ns : List Int}
    (kin : K.In z.heap) (glob : z.heap.Ns mainGlobals mg) (blt : z.heap.Ns builtinsNs mb) (bltE : ∀ x : Str, x ≠ "__name__" → mb x = bootBuiltins x) (lim : z.heap.NoLimit) (gens : z.gens = #[]) (tab : z.heap.get? Pt = some emptyT) (tabK : K.lookup Pt = none) (head : PySem.W.codeHdIn K c Pt = true)
    (bmod : ∃ (bm : Addr) (ob : Obj), mg "__builtins__" = some (.ref bm) ∧ bm ≠ builtinsNs ∧ z.heap.get? bm = some ob ∧ ob.cls = .type "module" ∧ ob.dict = some builtinsNs ∧ ob.data = .plain) (script : z.heap.get? a = some (listO vs)) (wholes : IntsAre vs ns) (few : ns.length ≤ 63)
    (Z : ∀ base : Heap, Nds P w K mg base C CB CP fI fdI gW fdW) (F : LawFn K fa c fd) :
    codeAny (model P w) callerA (.call (.ref fa) ⟨[.ref a], []⟩) (fun r z' => r = .ok (.ret (.bool true)) ∧ OldK z.heap z'.heap ∧ z'.os = z.os ∧ AllBare z'.gens) z := by
  have ne : a ≠ Pt := fun q => by
    rw [q, tab] at script
    cases script
  have rel := vals_ints wholes
  have lenV := wholes.length
  have small : ns.length ≤ sizeLine := Nat.le_trans few (by decide)
  cases inK : K.lookup a with
  | some o =>
    have e := kin a o inK
    rw [script] at e
    cases e
    refine law_core (H := fun b => if b = Pt then some (.tbl #[]) else none) kin glob blt bltE lim gens tab tabK head bmod script few Z F (if_pos rfl) (.inr ⟨_, vs.toArray, _, inK, rfl, rfl, rfl, by rw [List.size_toArray, lenV]; exact small, by simpa using rel⟩) (fun b u q => ?_) (fun b u q => ?_)
    · try dsimp only at q
      by_cases hb : b = Pt
      · rw [if_pos hb] at q
        cases q
        rw [hb]
        exact tab
      · rw [if_neg hb] at q
        cases q
    · try dsimp only at q
      by_cases hb : b = Pt
      · rw [if_pos hb] at q
        exact .inl ⟨hb, (Option.some.inj q).symm⟩
      · rw [if_neg hb] at q
        cases q
  | none =>
    refine law_core (H := fun b => if b = Pt then some (.tbl #[]) else if b = a then some (.frz (listO vs) (.lst (ns.map V.int))) else none) kin glob blt bltE lim gens tab tabK head bmod script few Z F (if_pos rfl) (.inl (.inr ⟨listO vs, by dsimp only; rw [if_neg ne, if_pos rfl]⟩)) (fun b u q => ?_) (fun b u q => ?_)
    · try dsimp only at q
      by_cases hb : b = Pt
      · rw [if_pos hb] at q
        cases q
        rw [hb]
        exact tab
      · rw [if_neg hb] at q
        by_cases ha : b = a
        · rw [if_pos ha] at q
          cases q
          rw [ha]
          exact ⟨script, by rw [List.length_map]; exact small, vs, _, rel, script⟩
        · rw [if_neg ha] at q
          cases q
    · try dsimp only at q
      by_cases hb : b = Pt
      · rw [if_pos hb] at q
        exact .inl ⟨hb, (Option.some.inj q).symm⟩
      · rw [if_neg hb] at q
        by_cases ha : b = a
        · rw [if_pos ha] at q
          exact .inr ⟨ha, inK, _, _, (Option.some.inj q).symm⟩
        · rw [if_neg ha] at q
          cases q
end K19

set_option Elab.async false
set_option linter.all false
set_option maxRecDepth 100000
set_option maxHeartbeats 0
namespace K19
open PySem PySem.Spec PyProof.Rows L2
theorem law_walk : PySem.W.WalkO hdQ hdLoose (PySem.W.XL hdQ []) hdH.says hdR.toRowW (HandSHeadRun.topDef hdR.prog 60) [] (fun f vs => PySem.call f vs) := by
  refine Att.attach_callB (l := PySem.Challenge.rw_pulledrooms_k19_whole_signs_or_a_turning) (n := 63) rfl (by kernel_rfl) fun w s₀ z mg mb fa o pm cd doc a vs ns G Y ho hd hcd hmg hobj hints hlen hbits hg => ?_
  obtain ⟨K, kin, S⟩ := Y
  have name : (HandSHeadRun.topDef hdR.prog 60).name = ("law" : Str) := by kernel_rfl
  rw [name] at hmg
  have D : He.SaysD hdFa hdDefs K := S.t.d
  obtain ⟨fI, gW, fdI, fdW, Z⟩ := nds (P := PySem.Challenge.rw_pulledrooms_k19_whole_signs_or_a_turning.prog) (w := w) kin G.T.g D S.more
  obtain ⟨fd, FL⟩ := D.def_ 45 (d := d_law) rfl
  have FL2 : Fun K "law" "law" s_law (He.ga K "law") fd := fun_of (st := s_law) (f := He.ga K "law") FL
  have at_ : mg "law" = some (.ref (He.ga K "law")) := He.glo_ok kin G.T.g (D.fact 45 (f := .glo "law") rfl)
  have same : fa = He.ga K "law" := Value.ref.inj (Option.some.inj (hmg.symm.trans at_))
  obtain ⟨oc, od, kV, doc', pm', an, cdv, ct, osl, e1, lk, hcd'⟩ := FL2.ex
  obtain ⟨c, rfl⟩ := He.codeIn_ref hcd'
  have isC : He.codeOf K ("law", none) = c := He.codeOf_eq (p := ("law", none)) (fd := fd) lk (by rw [e1])
  have p0 : (("law", none) : He.Defn) ∈ [(("law", none) : He.Defn)] := List.mem_cons_self
  have head := S.hd _ p0
  have out := S.out _ p0
  have empty := S.empty _ p0
  have eC : (He.cT K ("law", none)).1 = c := isC
  rw [eC] at head
  have F : LawFn K fa c fd := ⟨oc, od, kV, doc', pm', an, ct, osl, e1, by rw [same]; exact lk, hcd'⟩
  exact law_run kin G.T.g G.T.b G.T.builtins G.T.nolimit hg empty out head G.T.bmain hobj hints hlen Z F
end K19
open PySem PySem.W PySem.Calls PyProof.Rows
theorem PySem.Challenge.cw_pulledrooms_k19_whole_signs_or_a_turning_holds : PySem.Challenge.rw_pulledrooms_k19_whole_signs_or_a_turning.Holds := by
  w_on; o_law
  refine HandSHeadRun.head_imp (r := OpenLaw.row PySem.Challenge.rw_pulledrooms_k19_whole_signs_or_a_turning) (q := K19.hdQ) (H := K19.hdH) (ob := K19.hdOb) (M := 6000) (loose := K19.hdLoose) (d := HandSHeadRun.topDef (OpenLaw.row PySem.Challenge.rw_pulledrooms_k19_whole_signs_or_a_turning).prog 60) (kwd := []) K19.hdOb_eq K19.hdRun
    (by kernel_rfl) (by kernel_rfl) (by kernel_rfl) (by rfl) (by first | assumption | decide +kernel) (by decide +kernel) ⟨rfl, rfl, rfl, rfl, rfl, by decide +kernel⟩ ?hw ?hc
  case hw => w_witness2
  case hc => exact K19.law_walk
