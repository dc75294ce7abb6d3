import PyProof.Rows.All
import Wide.All
import OpenK.AllK
import Wide.FinOn
import KE.KStateDown
import Lean
import Wide.Once
import HandS.Base
import HandS.Call
import HandS.Ends
import HandS.More
import HandS.Words
import HandS.WordsExc
import HandS.Defaults
import HandS.Head0
import HandS.Head1
import HandS.Head2
import HandS.HeadEnd
import HandS.HeadHook1
import HandS.HeadHook2
import HandS.HeadHook3
import HandS.HeadHook4
import HandS.ForMost
import HandS.Walk
import HandS.Zip
import KE.GoesNew
import HandS.Set
import KE.KUnpackStar
import KE.KSetDisp
import HandS.SetBool
import HandS.SetFor
import HandS.SetIn
import HandS.Strs
import HandS.TupSets
import KE.SortData
import KE.SortLaws
import KE.DataMinMax
import PyProof.P3In
import KE.KDictList
import KE.KDictSum
import KE.KItemsList
import HandS.ListItems
import HandS.Deep
import PyProof.NeKinds
import HandS.Codes
import HandS.Conv
import HandS.MakeKwOnly
import HandS.MakeKw
import HandS.IsInst
import HandS.Finally
import HandS.DictComp
import HandS.TupAny
import HandS.Style
import HandS.Flow
import HandS.CallLocal
import PySem.Challenge.RW_joinreach_k55_whole_one_comes_one_goes
set_option Elab.async false
set_option linter.all false
set_option maxRecDepth 100000
set_option maxHeartbeats 0
namespace J
open PySem PySem.Spec PyProof.Rows L2
def top (i : Nat) : Stmt := PySem.Challenge.pw_joinreach_k55_whole_one_comes_one_goes.main.body.getD i (.Pass ⟨0, 0, 0, 0⟩)
abbrev s_is_whole : Stmt := top 20
abbrev s_is_within : Stmt := top 21
abbrev s_is_tree : Stmt := top 22
abbrev s_downward : Stmt := top 23
abbrev s_steps_between : Stmt := top 24
abbrev s_gaps : Stmt := top 25
abbrev s_hangs_together : Stmt := top 27
abbrev s_branch_around : Stmt := top 28
abbrev s_least_gap : Stmt := top 29
abbrev s_check_world : Stmt := top 32
abbrev s_makes_part : Stmt := top 34
abbrev s_is_part : Stmt := top 35
abbrev s_part_in : Stmt := top 36
abbrev s_part_far : Stmt := top 37
abbrev s_part_hull : Stmt := top 38
abbrev s_is_name : Stmt := top 44
abbrev s_check_reach : Stmt := top 49
abbrev s_closed : Stmt := top 50
abbrev s_name_fits : Stmt := top 53
abbrev s_reach_fits : Stmt := top 54
abbrev s_is_deed : Stmt := top 56
abbrev s_put_in : Stmt := top 57
abbrev s_behind : Stmt := top 58
abbrev s_parted : Stmt := top 59
abbrev s_lw_cell : Stmt := top 62
abbrev s_lw_purse : Stmt := top 63
abbrev s_lw_pick : Stmt := top 64
abbrev s_lw_wood : Stmt := top 65
abbrev s_lw_grove : Stmt := top 66
abbrev s_lw_gaps : Stmt := top 67
abbrev s_lw_between_two : Stmt := top 68
abbrev s_lw_limb : Stmt := top 69
abbrev s_lw_inside : Stmt := top 70
abbrev s_lw_piece : Stmt := top 71
abbrev s_lw_point : Stmt := top 72
abbrev s_lw_alone : Stmt := top 73
abbrev s_lw_words : Stmt := top 74
abbrev s_lw_some_piece : Stmt := top 75
abbrev s_lw_less : Stmt := top 76
abbrev s_lw_deed : Stmt := top 77
abbrev s_lw_led : Stmt := top 78
abbrev s_lw_start : Stmt := top 79
abbrev s_lw_each_in : Stmt := top 80
abbrev s_lw_changed_right : Stmt := top 81
abbrev s_lw_right : Stmt := top 82
abbrev s_law : Stmt := top 83
abbrev s_World_init : Stmt := inClass (top 31) 0
abbrev s_Field_init : Stmt := inClass (top 60) 0
abbrev s_Field_stand : Stmt := inClass (top 60) 6
abbrev s_Field_step : Stmt := inClass (top 60) 10
abbrev s_Field_do : Stmt := inClass (top 60) 11
abbrev s_Field_back : Stmt := inClass (top 60) 12
abbrev s_Field_back_to : Stmt := inClass (top 60) 13
abbrev s_Field_run : Stmt := inClass (top 60) 14
abbrev s_Field_tried : Stmt := inClass (top 60) 16
end J

set_option Elab.async false
set_option linter.all false
set_option maxRecDepth 100000
set_option maxHeartbeats 0
namespace J
open PySem PySem.Spec PyProof.Rows L2
def d_is_whole : He.DefD := ⟨("is_whole", none), "is_whole", "is_whole", defArgs s_is_whole, defBody s_is_whole, defScope s_is_whole, [], []⟩
def d_is_within : He.DefD := ⟨("is_within", none), "is_within", "is_within", defArgs s_is_within, defBody s_is_within, defScope s_is_within, [], []⟩
def d_is_tree : He.DefD := ⟨("is_tree", none), "is_tree", "is_tree", defArgs s_is_tree, defBody s_is_tree, defScope s_is_tree, [], []⟩
def d_downward : He.DefD := ⟨("downward", none), "downward", "downward", defArgs s_downward, defBody s_downward, defScope s_downward, [], []⟩
def d_steps_between : He.DefD := ⟨("steps_between", none), "steps_between", "steps_between", defArgs s_steps_between, defBody s_steps_between, defScope s_steps_between, [], []⟩
def d_gaps : He.DefD := ⟨("gaps", none), "gaps", "gaps", defArgs s_gaps, defBody s_gaps, defScope s_gaps, [], []⟩
def d_hangs_together : He.DefD := ⟨("hangs_together", none), "hangs_together", "hangs_together", defArgs s_hangs_together, defBody s_hangs_together, defScope s_hangs_together, [], []⟩
def d_branch_around : He.DefD := ⟨("branch_around", none), "branch_around", "branch_around", defArgs s_branch_around, defBody s_branch_around, defScope s_branch_around, [], []⟩
def d_least_gap : He.DefD := ⟨("least_gap", none), "least_gap", "least_gap", defArgs s_least_gap, defBody s_least_gap, defScope s_least_gap, [], []⟩
def d_check_world : He.DefD := ⟨("check_world", none), "check_world", "check_world", defArgs s_check_world, defBody s_check_world, defScope s_check_world, [], []⟩
def d_makes_part : He.DefD := ⟨("makes_part", none), "makes_part", "makes_part", defArgs s_makes_part, defBody s_makes_part, defScope s_makes_part, [], []⟩
def d_is_part : He.DefD := ⟨("is_part", none), "is_part", "is_part", defArgs s_is_part, defBody s_is_part, defScope s_is_part, [], []⟩
def d_part_in : He.DefD := ⟨("part_in", none), "part_in", "part_in", defArgs s_part_in, defBody s_part_in, defScope s_part_in, [], []⟩
def d_part_far : He.DefD := ⟨("part_far", none), "part_far", "part_far", defArgs s_part_far, defBody s_part_far, defScope s_part_far, [], []⟩
def d_part_hull : He.DefD := ⟨("part_hull", none), "part_hull", "part_hull", defArgs s_part_hull, defBody s_part_hull, defScope s_part_hull, [], []⟩
def d_is_name : He.DefD := ⟨("is_name", none), "is_name", "is_name", defArgs s_is_name, defBody s_is_name, defScope s_is_name, [], []⟩
def d_check_reach : He.DefD := ⟨("check_reach", none), "check_reach", "check_reach", defArgs s_check_reach, defBody s_check_reach, defScope s_check_reach, [], []⟩
def d_closed : He.DefD := ⟨("closed", none), "closed", "closed", defArgs s_closed, defBody s_closed, defScope s_closed, [], []⟩
def d_name_fits : He.DefD := ⟨("name_fits", none), "name_fits", "name_fits", defArgs s_name_fits, defBody s_name_fits, defScope s_name_fits, [], []⟩
def d_reach_fits : He.DefD := ⟨("reach_fits", none), "reach_fits", "reach_fits", defArgs s_reach_fits, defBody s_reach_fits, defScope s_reach_fits, [], []⟩
def d_is_deed : He.DefD := ⟨("is_deed", none), "is_deed", "is_deed", defArgs s_is_deed, defBody s_is_deed, defScope s_is_deed, [], []⟩
def d_put_in : He.DefD := ⟨("put_in", none), "put_in", "put_in", defArgs s_put_in, defBody s_put_in, defScope s_put_in, [], []⟩
def d_behind : He.DefD := ⟨("behind", none), "behind", "behind", defArgs s_behind, defBody s_behind, defScope s_behind, [], []⟩
def d_parted : He.DefD := ⟨("parted", none), "parted", "parted", defArgs s_parted, defBody s_parted, defScope s_parted, [], []⟩
def d_lw_cell : He.DefD := ⟨("_law_cell", none), "_law_cell", "_law_cell", defArgs s_lw_cell, defBody s_lw_cell, defScope s_lw_cell, [], []⟩
def d_lw_purse : He.DefD := ⟨("_law_purse", none), "_law_purse", "_law_purse", defArgs s_lw_purse, defBody s_lw_purse, defScope s_lw_purse, [], []⟩
def d_lw_pick : He.DefD := ⟨("_law_pick", none), "_law_pick", "_law_pick", defArgs s_lw_pick, defBody s_lw_pick, defScope s_lw_pick, [], []⟩
def d_lw_wood : He.DefD := ⟨("_law_wood", none), "_law_wood", "_law_wood", defArgs s_lw_wood, defBody s_lw_wood, defScope s_lw_wood, [], []⟩
def d_lw_grove : He.DefD := ⟨("_law_grove", none), "_law_grove", "_law_grove", defArgs s_lw_grove, defBody s_lw_grove, defScope s_lw_grove, [], []⟩
def d_lw_gaps : He.DefD := ⟨("_law_gaps", none), "_law_gaps", "_law_gaps", defArgs s_lw_gaps, defBody s_lw_gaps, defScope s_lw_gaps, [], []⟩
def d_lw_between_two : He.DefD := ⟨("_law_between_two", none), "_law_between_two", "_law_between_two", defArgs s_lw_between_two, defBody s_lw_between_two, defScope s_lw_between_two, [], []⟩
def d_lw_limb : He.DefD := ⟨("_law_limb", none), "_law_limb", "_law_limb", defArgs s_lw_limb, defBody s_lw_limb, defScope s_lw_limb, [], []⟩
def d_lw_inside : He.DefD := ⟨("_law_inside", none), "_law_inside", "_law_inside", defArgs s_lw_inside, defBody s_lw_inside, defScope s_lw_inside, [], []⟩
def d_lw_piece : He.DefD := ⟨("_law_piece", none), "_law_piece", "_law_piece", defArgs s_lw_piece, defBody s_lw_piece, defScope s_lw_piece, [], []⟩
def d_lw_point : He.DefD := ⟨("_law_point", none), "_law_point", "_law_point", defArgs s_lw_point, defBody s_lw_point, defScope s_lw_point, [], []⟩
def d_lw_alone : He.DefD := ⟨("_law_alone", none), "_law_alone", "_law_alone", defArgs s_lw_alone, defBody s_lw_alone, defScope s_lw_alone, [], []⟩
def d_lw_words : He.DefD := ⟨("_law_words", none), "_law_words", "_law_words", defArgs s_lw_words, defBody s_lw_words, defScope s_lw_words, [], []⟩
def d_lw_some_piece : He.DefD := ⟨("_law_some_piece", none), "_law_some_piece", "_law_some_piece", defArgs s_lw_some_piece, defBody s_lw_some_piece, defScope s_lw_some_piece, [], []⟩
def d_lw_less : He.DefD := ⟨("_law_less", none), "_law_less", "_law_less", defArgs s_lw_less, defBody s_lw_less, defScope s_lw_less, [], []⟩
def d_lw_deed : He.DefD := ⟨("_law_deed", none), "_law_deed", "_law_deed", defArgs s_lw_deed, defBody s_lw_deed, defScope s_lw_deed, [], []⟩
def d_lw_led : He.DefD := ⟨("_law_led", none), "_law_led", "_law_led", defArgs s_lw_led, defBody s_lw_led, defScope s_lw_led, [], []⟩
def d_lw_start : He.DefD := ⟨("_law_start", none), "_law_start", "_law_start", defArgs s_lw_start, defBody s_lw_start, defScope s_lw_start, [], []⟩
def d_lw_each_in : He.DefD := ⟨("_law_each_in", none), "_law_each_in", "_law_each_in", defArgs s_lw_each_in, defBody s_lw_each_in, defScope s_lw_each_in, [], []⟩
def d_lw_changed_right : He.DefD := ⟨("_law_changed_right", none), "_law_changed_right", "_law_changed_right", defArgs s_lw_changed_right, defBody s_lw_changed_right, defScope s_lw_changed_right, [], []⟩
def d_lw_right : He.DefD := ⟨("_law_right", none), "_law_right", "_law_right", defArgs s_lw_right, defBody s_lw_right, defScope s_lw_right, [], []⟩
def d_law : He.DefD := ⟨("law", none), "law", "law", defArgs s_law, defBody s_law, defScope s_law, [], []⟩
def d_World_init : He.DefD := ⟨("World", some "__init__"), "__init__", "World.__init__", defArgs s_World_init, defBody s_World_init, defScope s_World_init, [], []⟩
def d_Field_init : He.DefD := ⟨("Field", some "__init__"), "__init__", "Field.__init__", defArgs s_Field_init, defBody s_Field_init, defScope s_Field_init, [], [("reach", .int 1)]⟩
def d_Field_stand : He.DefD := ⟨("Field", some "stand"), "stand", "Field.stand", defArgs s_Field_stand, defBody s_Field_stand, defScope s_Field_stand, [], []⟩
def d_Field_step : He.DefD := ⟨("Field", some "step"), "step", "Field.step", defArgs s_Field_step, defBody s_Field_step, defScope s_Field_step, [], []⟩
def d_Field_do : He.DefD := ⟨("Field", some "do"), "do", "Field.do", defArgs s_Field_do, defBody s_Field_do, defScope s_Field_do, [], []⟩
def d_Field_back : He.DefD := ⟨("Field", some "back"), "back", "Field.back", defArgs s_Field_back, defBody s_Field_back, defScope s_Field_back, [], []⟩
def d_Field_back_to : He.DefD := ⟨("Field", some "back_to"), "back_to", "Field.back_to", defArgs s_Field_back_to, defBody s_Field_back_to, defScope s_Field_back_to, [], []⟩
def d_Field_run : He.DefD := ⟨("Field", some "run"), "run", "Field.run", defArgs s_Field_run, defBody s_Field_run, defScope s_Field_run, [], []⟩
def d_Field_tried : He.DefD := ⟨("Field", some "tried"), "tried", "Field.tried", defArgs s_Field_tried, defBody s_Field_tried, defScope s_Field_tried, [], []⟩
def fn : List He.DefD := [d_is_whole, d_is_within, d_is_tree, d_downward, d_steps_between, d_gaps, d_hangs_together, d_branch_around, d_least_gap, d_check_world, d_makes_part, d_is_part, d_part_in, d_part_far, d_part_hull, d_is_name, d_check_reach, d_closed, d_name_fits, d_reach_fits, d_is_deed, d_put_in, d_behind, d_parted, d_lw_cell, d_lw_purse, d_lw_pick, d_lw_wood, d_lw_grove, d_lw_gaps, d_lw_between_two, d_lw_limb, d_lw_inside, d_lw_piece, d_lw_point, d_lw_alone, d_lw_words, d_lw_some_piece, d_lw_less, d_lw_deed, d_lw_led, d_lw_start, d_lw_each_in, d_lw_changed_right, d_lw_right, d_law, d_World_init, d_Field_init, d_Field_stand, d_Field_step, d_Field_do, d_Field_back, d_Field_back_to, d_Field_run, d_Field_tried]
def fa0 : List He.Fa := [.glo "is_whole", .glo "is_within", .glo "is_tree", .glo "downward", .glo "steps_between", .glo "gaps", .glo "hangs_together", .glo "branch_around", .glo "least_gap", .glo "check_world", .glo "makes_part", .glo "is_part", .glo "part_in", .glo "part_far", .glo "part_hull", .glo "is_name", .glo "check_reach", .glo "closed", .glo "name_fits", .glo "reach_fits", .glo "is_deed", .glo "put_in", .glo "behind", .glo "parted", .glo "_law_cell", .glo "_law_purse", .glo "_law_pick", .glo "_law_wood", .glo "_law_grove", .glo "_law_gaps"]
def fa1 : List He.Fa := [.glo "_law_between_two", .glo "_law_limb", .glo "_law_inside", .glo "_law_piece", .glo "_law_point", .glo "_law_alone", .glo "_law_words", .glo "_law_some_piece", .glo "_law_less", .glo "_law_deed", .glo "_law_led", .glo "_law_start", .glo "_law_each_in", .glo "_law_changed_right", .glo "_law_right", .glo "law", .glo "World", .glo "Field", .glo "FITS", .free "isinstance", .free "int", .free "bool", .free "str", .free "tuple", .free "len", .free "all", .free "enumerate", .free "list", .free "range", .free "sorted"]
def fa2 : List He.Fa := [.free "set", .free "min", .free "max", .free "sum", .free "any", .free "zip", .free "dict", .int "REACH" 1, .int "MOST_REACH" 48, .int "MOST_PLACES" 12, .int "MOST_TREES" 4, .int "MOST_NAMES" 24, .int "MOST_SIGNS" 8, .str "SIGNS" "abcdefghijklmnopqrstuvwxyz", .cls "World", .mkr "World", .keep "World", .cls "Field", .mkr "Field", .keep "Field", .meth "Field" "stand", .meth "Field" "step", .meth "Field" "do", .meth "Field" "back", .meth "Field" "back_to", .meth "Field" "run", .meth "Field" "tried", .noat "World" "trees", .noat "World" "tables", .noat "Field" "world"]
def fa3 : List He.Fa := [.noat "Field" "reach", .noat "Field" "busy", .noat "Field" "tries", .noat "Field" "known", .noat "Field" "kin", .noat "Field" "past"]
def fa : List He.Fa := fa0 ++ fa1 ++ fa2 ++ fa3
def nm0 : List PySem.Str := ["_wall", "REACH", "MOST_REACH", "MOST_PLACES", "MOST_TREES", "MOST_NAMES", "ReachError", "LostError", "FullError", "NoWorld", "NoBook", "NoReach", "NoDeed", "NoDeeds", "NoName", "Stands", "NoBack", "TooMany", "is_whole", "is_within", "is_tree", "downward", "steps_between", "gaps", "hangs_together", "branch_around", "least_gap", "World", "check_world", "makes_part"]
def nm1 : List PySem.Str := ["is_part", "part_in", "part_far", "part_hull", "part_text", "SIGNS", "MOST_SIGNS", "is_name", "first_wrong", "check_book", "show_book", "check_reach", "closed", "lots_of", "name_fits", "reach_fits", "FITS", "is_deed", "put_in", "behind", "parted", "Field", "_law_cell", "_law_purse", "_law_pick", "_law_wood", "_law_grove", "_law_gaps", "_law_between_two", "_law_limb"]
def nm2 : List PySem.Str := ["_law_inside", "_law_piece", "_law_point", "_law_alone", "_law_words", "_law_some_piece", "_law_less", "_law_deed", "_law_led", "_law_start", "_law_each_in", "_law_changed_right", "_law_right"]
def nms : List PySem.Str := nm0 ++ nm1 ++ nm2

def fitAt (k : Str) (K : PySem.W.Frag) : Addr := match PySem.W.nsIn K (He.ga K "FITS") k with
  | some (some (.ref a)) => a
  | _ => 0
def tupAtB (K : PySem.W.Frag) (a : Addr) (vs : List He.Dv) : Bool := match K.lookup a with
  | some ⟨.type c, _, .seq its _, _⟩ => decide (c = "tuple") && (decide (its.size ≤ sizeLine) && He.relAll (vs.map (He.Dv.v K)) its.toList)
  | _ => false
def insX (K : PySem.W.Frag) (C : Addr) : Bool :=
  He.eqO (PySem.W.findIn K (.ref C) "__class__") (some (some (.builtin "object.__class__"))) && (He.eqO (PySem.W.specialIn K (.builtin "object.__class__") "__get__") (some (some (.builtin "getset_descriptor.__get__"))) &&
  (decide (PySem.W.takesIn K (.builtin "object.__class__") = some true) && (decide (PySem.W.mroIn K C (.type "object") = some true) && decide (PySem.W.kitOne K (.ref C) (.ref C) = some true))))
def kdB (K : PySem.W.Frag) : Bool := true
def ex (K : PySem.W.Frag) : Bool :=
  insX K (He.ga K "World") && He.valsB K (He.ga K "FITS") [("put", .adr (fitAt "put")), ("strike", .adr (fitAt "strike")), ("move", .adr (fitAt "move")), ("reach", .adr (fitAt "reach"))] &&
  (tupAtB K (fitAt "put" K) [.glo "name_fits", .glo "is_part"] && (tupAtB K (fitAt "strike" K) [.glo "name_fits"] && (tupAtB K (fitAt "move" K) [.glo "name_fits", .glo "is_part"] && tupAtB K (fitAt "reach" K) [.glo "reach_fits"])))
def tabs : List He.Tab := [((fun K => He.ga K "FITS"), ["put", "strike", "move", "reach"])]
abbrev R : PySem.W.OpenRow := PySem.W.OpenLaw.row PySem.Challenge.rw_joinreach_k55_whole_one_comes_one_goes
abbrev hk : PySem.W.Hook := He.hookX 4 fa fn tabs [] ex
def ob (s : PySem.W.SharedT) : He.AlX := He.obsX 4 fa fn tabs [] ex (HandSHeadRun.getT s)
theorem ob_eq (s : PySem.W.SharedT) : ob s = hk.obs s.abs := He.obsX_eq (HandSHeadRun.getT_eq s)
/-- the run's end, looked at in two pieces (each its own kernel run: less memory at a time) -/
noncomputable abbrev fin (w : World) (os : OsState) := HandSHeadRun.endF (HandSHeadRun.stepQ (HandSHeadRun.denQ HandSHeadRun.tabQ) R.prog w) 20000 R.prog w os
abbrev vw : Program := PySem.W.view R.prog [83]
theorem joined {α β γ δ : Type} {o : Option α} {f : α → β} {g : α → γ} {h : α → δ} {b : β} {c : γ} {d : δ} (e1 : o.map (fun s => (f s, g s)) = some (b, c)) (e2 : o.map h = some d) : o.map (fun s => (f s, g s, h s)) = some (b, c, d) := by
  cases o with
  | none => cases e1
  | some s =>
    cases e1
    cases e2
    rfl
theorem top_f (w : World) (os : OsState) : (fin (w.withFollow "special-get-raises" false) os).map (fun s => (HandSHeadRun.looksF R.prog (PySem.W.boot_heap (w.withFollow "special-get-raises" false).params) s.abs, HandSHeadRun.seenQ vw nms (importedModules R.prog.main.body) (fun s => PySem.W.xlAt vw [] s && PySem.W.recOk R.toRowW.records s) s.abs)) = some (true, PySem.W.openGood vw nms) := by kernel_rfl
theorem obs_f (w : World) (os : OsState) : (fin (w.withFollow "special-get-raises" false) os).map ob = some (hk.val (w.withFollow "special-get-raises" false)) := by kernel_rfl
theorem top_t (w : World) (os : OsState) : (fin (w.withFollow "special-get-raises" true) os).map (fun s => (HandSHeadRun.looksF R.prog (PySem.W.boot_heap (w.withFollow "special-get-raises" true).params) s.abs, HandSHeadRun.seenQ vw nms (importedModules R.prog.main.body) (fun s => PySem.W.xlAt vw [] s && PySem.W.recOk R.toRowW.records s) s.abs)) = some (true, PySem.W.openGood vw nms) := by kernel_rfl
theorem obs_t (w : World) (os : OsState) : (fin (w.withFollow "special-get-raises" true) os).map ob = some (hk.val (w.withFollow "special-get-raises" true)) := by kernel_rfl
theorem run_f (w : World) : HandSHeadRun.RunEq R vw hk ob 20000 nms (w.withFollow "special-get-raises" false) := by
  intro os
  exact joined (top_f w os) (obs_f w os)
theorem run_t (w : World) : HandSHeadRun.RunEq R vw hk ob 20000 nms (w.withFollow "special-get-raises" true) := by
  intro os
  exact joined (top_t w os) (obs_t w os)
theorem run (w : World) : HandSHeadRun.RunEq R (PySem.W.view R.prog [83]) hk ob 20000 nms w :=
  PySem.W.byRow2 "special-get-raises" (P := fun w => HandSHeadRun.RunEq R (PySem.W.view R.prog [83]) hk ob 20000 nms w) run_f run_t w
end J


set_option Elab.async false
set_option linter.all false
set_option maxRecDepth 100000
set_option maxHeartbeats 4000000
/-! JR1: zip of two and of three, enumerate, over lists and tuples in any mix. -/
namespace J
open PySem PySem.Spec PyProof.Rows L2

/-- at a a list (false) or a tuple (true) of xs -/
def SqB (K : PySem.W.Frag) (H : Hp) (t : Bool) (a : Addr) (xs : List V) : Prop := match t with
  | true => SqT K H a xs
  | false => SqL K H a xs
def IsSq (h : Heap) (t : Bool) (a : Addr) (its : Array Value) : Prop := match t with
  | true => h.IsTuple a its
  | false => h.IsList a its
def IsSqIter (h : Heap) (t : Bool) (it a : Addr) (i : Nat) : Prop := match t with
  | true => h.IsTupleIter it a i
  | false => h.IsListIter it a i
section
variable {X : Cx} {pins : List (Addr × Obj)} {σ : L2.St} {H : Hp} {s : Shared} {t : Bool} {a it : Addr} {xs ys : List V}
theorem sq_get (I : Inv X pins σ H s) (h : SqB X.K H t a xs) : ∃ its : List Value, Vals xs its ∧ IsSq s.heap t a its.toArray ∧ xs.length ≤ sizeLine := by
  cases t with
  | true =>
    obtain ⟨its, r, p, z⟩ := I.tuple h
    exact ⟨its, r, p, z⟩
  | false =>
    obtain ⟨its, r, p, z⟩ := I.list h
    exact ⟨its, r, p.isList, z⟩
theorem sq_inj (I : Inv X pins σ H s) (h : SqB X.K H t a xs) (h' : SqB X.K H t a ys) : xs = ys := by
  cases t with
  | true => exact I.tuple_inj h h'
  | false => exact I.list_inj h h'
theorem IsSq.lt {h : Heap} {its : Array Value} (p : IsSq h t a its) : a < h.objs.size := by
  cases t with
  | true =>
    obtain ⟨o, ho, _⟩ := p
    exact Heap.lt_size ho
  | false =>
    obtain ⟨o, ho, _⟩ := p
    exact Heap.lt_size ho
theorem IsSqIter.ob {h : Heap} {i : Nat} (p : IsSqIter h t it a i) : ∃ o, h.get? it = some o ∧ ∀ v, o.data ≠ .cell v := by
  cases t with
  | true =>
    obtain ⟨o, ho, _, hd⟩ := p
    exact ⟨o, ho, fun v q => by rw [hd] at q; cases q⟩
  | false =>
    obtain ⟨o, ho, _, hd⟩ := p
    exact ⟨o, ho, fun v q => by rw [hd] at q; cases q⟩
theorem IsSqIter.at {h h' : Heap} {i : Nat} (p : IsSqIter h t it a i) (k : ∀ o, h.get? it = some o → h'.get? it = some o) : IsSqIter h' t it a i := by
  cases t with
  | true => exact Heap.IsTupleIter.at p k
  | false => exact Heap.IsListIter.at p k
theorem drawsB {prog : Program} {w : World} {A : Around} (hh : A.handled = none) (t : Bool) (it a : Addr) (hne : a ≠ it) (items : Array Value) :
    Draws prog w A it [it, a] items.size (fun i v => items[i]? = some v) (fun i h => IsSqIter h t it a i ∧ IsSq h t a items) := by
  cases t with
  | true => exact Draws.tuple hh it a hne items
  | false => exact Draws.list hh it a hne items
theorem beginsB (t : Bool) (a : Addr) (items : Array Value) : ∃ o, Begins (.ref a) o (fun h => IsSq h t a items) ∧ ∀ (h : Heap) (it : Addr), h.get? it = some o → IsSqIter h t it a 0 := by
  cases t with
  | true => exact ⟨_, begins_tuple a items, fun h it e => ⟨_, e, rfl, rfl⟩⟩
  | false => exact ⟨_, begins_list a items, fun h it e => ⟨_, e, rfl, rfl⟩⟩
end

/-- a Turn by what KE.GoesNew tells of the iterator; tn: the iterator's own objects -/
theorem turn_of {P : Program} {w : World} {K : PySem.W.Frag} {tg : Expr} {J : It} {fp : List Addr} {it : Addr} {tn : Nat → Heap → Prop} (mem : it ∈ fp)
    (obj : ∀ i h, tn i h → ∀ b ∈ fp, ∃ o, h.get? b = some o ∧ ∀ v, o.data ≠ .cell v)
    (keep : ∀ i h h', tn i h → (∀ b ∈ fp, ∀ o, h.get? b = some o → h'.get? b = some o) → tn i h')
    (go : ∀ (X : Cx), X.prog = P → X.w = w → X.K = K → X.A.handled = none → ∀ (i : Nat) (pins : List (Addr × Obj)) (s : Shared) (σ : L2.St) (H : Hp), Inv X pins σ H s → tn i s.heap → J.go i H →
      ∃ (n : Nat) (Y : Nat → Heap → Value → Heap → Prop) (St : Nat → Heap → Prop) (fp' wr : List Addr), GoesN P w X.A tg it fp' wr n Y St ∧ (∀ b ∈ wr, b ∈ fp) ∧ i < n ∧ St i s.heap ∧ (∀ h', St (i + 1) h' → tn (i + 1) h') ∧
        ∀ v h', Y i s.heap v h' → ∃ (T : Addr) (xs : List V) (vals : List Value), v = .ref T ∧ s.heap.objs.size ≤ T ∧ Vals xs vals ∧ xs.length ≤ sizeLine ∧ IsTup h' T vals.toArray ∧ (H T = none → J.yld i H (.ref T) (upd H T (.tup xs))))
    (stop : ∀ (X : Cx), X.prog = P → X.w = w → X.K = K → X.A.handled = none → ∀ (i : Nat) (pins : List (Addr × Obj)) (s : Shared) (σ : L2.St) (H : Hp), Inv X pins σ H s → tn i s.heap → J.stop i H →
      ∃ (Y : Nat → Heap → Value → Heap → Prop) (St : Nat → Heap → Prop) (fp' wr : List Addr), GoesN P w X.A tg it fp' wr i Y St ∧ (∀ b ∈ wr, b ∈ fp) ∧ St i s.heap)
    (self : ∀ (A : Around) (i : Nat) (s : Shared) (Q : Value → Shared → Prop) (E : Value → Shared → Prop), tn i s.heap → Q (.ref it) s → wpAny (model P w) A (pyIter (.ref it)) Q E s) : Turn P w K tg J fp it tn where
  mem := mem
  obj := obj
  keep := keep
  item := by
    intro X hP hw hK hc i pins s σ H E I hf st hg
    obtain ⟨n, Y, St, fp', wr, W, hwr, hi, hst, hnx, hY⟩ := go X hP hw hK (I.ok.hd hc) i pins s σ H I st hg
    subst hP hw hK
    refine W.goes i s (fun v s2 => ∃ x H', Inv X pins σ H' s2 ∧ RelV x v ∧ J.yld i H x H' ∧ tn (i + 1) s2.heap ∧ ∀ b ∈ fp, H' b = none) E hi hst fun v h' tk y st' hk htk => ?_
    obtain ⟨T, xs, vals, rfl, hT, rv, hz, hT2, hy⟩ := hY v h' y
    have new : ObjOk X.prog X.w (upd H T (.tup xs)) h' T (.tup xs) := ⟨hz, vals, rv, hT2⟩
    have I1 : Inv X pins σ (upd H T (.tup xs)) { s with heap := h', toks := tk } := I.turnedNew (t' := tk) (ch := wr) (fun b o hb q => hk b o hb q) (fun b hb => hf b (hwr b hb)) hT new
    refine ⟨.ref T, _, I1, rfl, hy (I.hok.fresh hT), hnx _ st', fun b hb => ?_⟩
    obtain ⟨o, ho, _⟩ := obj i s.heap st b hb
    rw [upd_ne (Nat.ne_of_lt (Nat.lt_of_lt_of_le (Heap.lt_size ho) hT))]
    exact (hf b hb).1
  done := by
    intro X hP hw hK hc i pins s σ H E I hf st hg
    obtain ⟨Y, St, fp', wr, W, hwr, hst⟩ := stop X hP hw hK (I.ok.hd hc) i pins s σ H I st hg
    subst hP hw hK
    exact W.stops s (fun s1 => Inv X pins σ H s1) E hst fun h' tk hk htk => I.turnedL (t' := tk) (ch := wr) hk fun b hb => hf b (hwr b hb)
  self := self

/-! ### zip of two -/
def Itz2 (K : PySem.W.Frag) (t1 : Bool) (a : Addr) (t2 : Bool) (b : Addr) : It :=
  ⟨fun i H => ∃ (xs ys : List V) (x y : V), SqB K H t1 a xs ∧ SqB K H t2 b ys ∧ xs[i]? = some x ∧ ys[i]? = some y,
    fun i H v H' => ∃ T x y, v = .ref T ∧ H T = none ∧ H' = upd H T (.tup [x, y]) ∧ (∀ xs, SqB K H t1 a xs → xs[i]? = some x) ∧ ∀ ys, SqB K H t2 b ys → ys[i]? = some y,
    fun i H => ∃ xs ys : List V, SqB K H t1 a xs ∧ SqB K H t2 b ys ∧ i = min xs.length ys.length⟩
theorem get_arr {xs : List V} {its : List Value} {i : Nat} {x : V} (rv : Vals xs its) (h : xs[i]? = some x) : i < its.toArray.size := by
  obtain ⟨u, hu, _⟩ := rv.get h
  obtain ⟨hl, _⟩ := List.getElem?_eq_some_iff.mp hu
  simpa using hl
theorem size_arr {xs : List V} {its : List Value} (rv : Vals xs its) : its.toArray.size = xs.length := by
  rw [rv.length]
  simp
theorem rel_arr {xs : List V} {its : List Value} {i : Nat} {x : V} {u : Value} (rv : Vals xs its) (h : xs[i]? = some x) (hu : its.toArray[i]? = some u) : RelV x u := by
  obtain ⟨u', hu', r⟩ := rv.get h
  have e : some u' = some u := by
    rw [← hu', ← hu]
    simp
  cases e
  exact r
theorem turn_zip2 {P : Program} {w : World} {K : PySem.W.Frag} {elts : List Expr} {kk : Nat} {tpos : Pos} {t1 t2 : Bool} {a b N : Addr} (ha : a < N) (hb : b < N) :
    Turn P w K (.Tuple elts kk tpos) (Itz2 K t1 a t2 b) [N + 4, N + 2, N + 3, N, N + 1] (N + 4)
      (fun i h => IsZip h (N + 4) (N + 2) (N + 3) .none ∧ IsTupOf2 h (N + 2) (.ref N) (.ref (N + 1)) ∧ (∃ x y, IsTupOf2 h (N + 3) x y) ∧ IsSqIter h t1 N a i ∧ IsSqIter h t2 (N + 1) b i) := by
  have S : ZipSep2 (N + 4) (N + 2) (N + 3) N (N + 1) [N, a] [N + 1, b] := zip_sep2 (fp1 := [a]) (fp2 := [b]) (fun c hc => by rw [List.mem_singleton.mp hc]; exact ha) (fun c hc => by rw [List.mem_singleton.mp hc]; exact hb)
  have na : a ≠ N := Nat.ne_of_lt ha
  have nb : b ≠ N + 1 := Nat.ne_of_lt (Nat.lt_succ_of_lt hb)
  have wsub : ∀ c ∈ [N + 4, N + 3, N, N + 1], c ∈ [N + 4, N + 2, N + 3, N, N + 1] := fun c hc => by
    simp only [List.mem_cons, List.not_mem_nil, or_false] at hc
    rcases hc with h | h | h | h <;> rw [h] <;> simp
  refine turn_of (by simp) (fun i h st c hc => ?_) (fun i h h' st k => ?_) (fun X hP hw hK hh i pins s σ H I st hg => ?_) (fun X hP hw hK hh i pins s σ H I st hg => ?_) (fun A i s Q E st h => wpAny_pyIter_zip st.1 h)
  · obtain ⟨hz, hTI, ⟨x, y, hTO⟩, h1, h2⟩ := st
    have e' : c = N + 4 ∨ c = N + 2 ∨ c = N + 3 ∨ c = N ∨ c = N + 1 := by simpa using hc
    rcases e' with q | q | q | q | q
    · rw [q]; exact ⟨_, hz, fun v q => nomatch q⟩
    · rw [q]; exact ⟨_, hTI, fun v q => nomatch q⟩
    · rw [q]; exact ⟨_, hTO, fun v q => nomatch q⟩
    · rw [q]; exact h1.ob
    · rw [q]; exact h2.ob
  · obtain ⟨hz, hTI, ⟨x, y, hTO⟩, h1, h2⟩ := st
    exact ⟨k _ (by simp) _ hz, k _ (by simp) _ hTI, ⟨x, y, k _ (by simp) _ hTO⟩, h1.at fun o q => k N (by simp) o q, h2.at fun o q => k (N + 1) (by simp) o q⟩
  · subst hP hw hK
    obtain ⟨hz, hTI, ⟨x0, y0, hTO⟩, h1, h2⟩ := st
    obtain ⟨xs, ys, x, y, qx, qy, hx, hy⟩ := hg
    obtain ⟨its, rv, p1, _⟩ := sq_get I qx
    obtain ⟨its2, rv2, p2, _⟩ := sq_get I qy
    refine ⟨_, _, _, _, _, GoesN.zip2 S (drawsB (A := X.A.in1) hh t1 N a na its.toArray) (drawsB (A := X.A.in1) hh t2 (N + 1) b nb its2.toArray), wsub, ?_, ⟨hz, hTI, ⟨x0, y0, hTO⟩, ⟨h1, p1⟩, ⟨h2, p2⟩⟩, fun h' st' => ?_, fun v h' y' => ?_⟩
    · have l1 := get_arr rv hx
      have l2 := get_arr rv2 hy
      omega
    · obtain ⟨z1, z2, z3, z4, z5⟩ := st'
      exact ⟨z1, z2, z3, z4.1, z5.1⟩
    · obtain ⟨T, u, u2, rfl, hT, hu, hu2, hI⟩ := y'
      refine ⟨T, [x, y], [u, u2], rfl, hT, .cons (rel_arr rv hx hu) (.cons (rel_arr rv2 hy hu2) .nil), by show 2 ≤ sizeLine; decide, hI, fun hn => ⟨T, x, y, rfl, hn, rfl, fun l hl => ?_, fun l hl => ?_⟩⟩
      · rw [sq_inj I hl qx]; exact hx
      · rw [sq_inj I hl qy]; exact hy
  · subst hP hw hK
    obtain ⟨hz, hTI, ⟨x0, y0, hTO⟩, h1, h2⟩ := st
    obtain ⟨xs, ys, qx, qy, e⟩ := hg
    obtain ⟨its, rv, p1, _⟩ := sq_get I qx
    obtain ⟨its2, rv2, p2, _⟩ := sq_get I qy
    have G := GoesN.zip2 (elts := elts) (x1 := kk) (pos := tpos) S (drawsB (prog := X.prog) (w := X.w) (A := X.A.in1) hh t1 N a na its.toArray) (drawsB (A := X.A.in1) hh t2 (N + 1) b nb its2.toArray)
    have ei : min its.toArray.size its2.toArray.size = i := by rw [size_arr rv, size_arr rv2, e]
    rw [ei] at G
    exact ⟨_, _, _, _, G, wsub, hz, hTI, ⟨x0, y0, hTO⟩, ⟨h1, p1⟩, ⟨h2, p2⟩⟩
def iZip2 (K : PySem.W.Frag) (t1 t2 : Bool) (ta : TA) : TI := fun σ H R => ta σ H fun vs H1 => ∃ a b xs ys, vs = [.ref a, .ref b] ∧ SqB K H1 t1 a xs ∧ SqB K H1 t2 b ys ∧ R (Itz2 K t1 a t2 b) H1
theorem pi_zip2 {X : Cx} {e e2 : Expr} {ta : TA} {p pos tpos : Pos} {elts : List Expr} {kk : Nat} (t1 t2 : Bool) (hg : Gl X "zip") (hm : X.mg "zip" = none) (ha : PA X [e, e2] ta)
    (hs : starEach [e, e2] X.env = (false, eval e X.env) :: starEach [e2] X.env := by rfl) (hpl : (backTo pos (starEach [e2] X.env)).any (·.1) = false := by rfl) :
    PI X (.Tuple elts kk tpos) (.Call (.Name "zip" p) [e, e2] [] pos) (iZip2 X.K t1 t2 ta) := by
  refine ⟨fun pins s σ H R I h => ?_⟩
  refine Call_ (ld_blt I hg hm PyProof.Rows.boot_zip (PyProof.Rows.callWith_type1 (thn (ha.run pos pins s σ H _ I h) fun us s1 ⟨vs, H1, I1, r1, q1⟩ => ?_) hs hpl))
  obtain ⟨a, b, xs, ys, ex, qx, qy, q⟩ := q1
  subst ex
  cases r1 with
  | cons r rr =>
    cases rr with
    | cons r' rr =>
      cases rr
      cases r
      cases r'
      obtain ⟨its, rv, p1, _⟩ := sq_get I1 qx
      obtain ⟨its2, rv2, p2, _⟩ := sq_get I1 qy
      obtain ⟨o1, B1, b1⟩ := beginsB t1 a its.toArray
      obtain ⟨o2, B2, b2⟩ := beginsB t2 b its2.toArray
      refine zip_begins2 B1 B2 p1 p2 fun h' hz hTI hTO h1 h2 hsz hk => wpAny_pyIter_zip hz ?_
      have I2 : Inv X pins σ H1 { s1 with heap := h' } := I1.kept (t' := s1.toks) hk
      refine ⟨s1.heap.objs.size + 4, [s1.heap.objs.size + 4, s1.heap.objs.size + 2, s1.heap.objs.size + 3, s1.heap.objs.size, s1.heap.objs.size + 1], _, _, H1, rfl, I2, turn_zip2 p1.lt p2.lt, ⟨hz, hTI, ⟨_, _, hTO⟩, b1 _ _ h1, b2 _ _ h2⟩, fun c hcm => ?_, q⟩
      have hle : s1.heap.objs.size ≤ c := by
        have e' : c = s1.heap.objs.size + 4 ∨ c = s1.heap.objs.size + 2 ∨ c = s1.heap.objs.size + 3 ∨ c = s1.heap.objs.size ∨ c = s1.heap.objs.size + 1 := by simpa using hcm
        rcases e' with z | z | z | z | z
        · rw [z]; exact Nat.le_add_right _ _
        · rw [z]; exact Nat.le_add_right _ _
        · rw [z]; exact Nat.le_add_right _ _
        · rw [z]; exact Nat.le_refl _
        · rw [z]; exact Nat.le_add_right _ _
      exact I1.fpOk hle (I1.hok.fresh hle)
theorem walk_zip2 {K : PySem.W.Frag} {t1 t2 : Bool} {a b : Addr} {xs ys : List V} {n : Nat} (hn : n = min xs.length ys.length) :
    Walk (Itz2 K t1 a t2 b) n (fun H => SqB K H t1 a xs ∧ SqB K H t2 b ys) (YPair (fun i => xs[i]?) (fun i => ys[i]?)) := by
  subst hn
  refine ⟨fun i _ hi q => ?_, fun _ q => ⟨xs, ys, q.1, q.2, rfl⟩, fun i H v H' _ q y => ?_⟩
  · have h1 : i < xs.length := by omega
    have h2 : i < ys.length := by omega
    exact ⟨xs, ys, xs[i], ys[i], q.1, q.2, by simp [h1], by simp [h2]⟩
  · obtain ⟨T, x, z, h1, h2, h3, h4, h5⟩ := y
    exact ⟨T, x, z, h1, h2, h3, h4 xs q.1, h5 ys q.2⟩

/-! ### zip of three -/
def Itz3 (K : PySem.W.Frag) (t1 : Bool) (a : Addr) (t2 : Bool) (b : Addr) (t3 : Bool) (c : Addr) : It :=
  ⟨fun i H => ∃ (xs ys zs : List V) (x y z : V), SqB K H t1 a xs ∧ SqB K H t2 b ys ∧ SqB K H t3 c zs ∧ xs[i]? = some x ∧ ys[i]? = some y ∧ zs[i]? = some z,
    fun i H v H' => ∃ T x y z, v = .ref T ∧ H T = none ∧ H' = upd H T (.tup [x, y, z]) ∧ (∀ xs, SqB K H t1 a xs → xs[i]? = some x) ∧ (∀ ys, SqB K H t2 b ys → ys[i]? = some y) ∧ ∀ zs, SqB K H t3 c zs → zs[i]? = some z,
    fun i H => ∃ xs ys zs : List V, SqB K H t1 a xs ∧ SqB K H t2 b ys ∧ SqB K H t3 c zs ∧ i = min (min xs.length ys.length) zs.length⟩
theorem turn_zip3 {P : Program} {w : World} {K : PySem.W.Frag} {elts : List Expr} {kk : Nat} {tpos : Pos} {t1 t2 t3 : Bool} {a b c N : Addr} (ha : a < N) (hb : b < N) (hc : c < N) :
    Turn P w K (.Tuple elts kk tpos) (Itz3 K t1 a t2 b t3 c) [N + 5, N + 3, N + 4, N, N + 1, N + 2] (N + 5)
      (fun i h => IsZip h (N + 5) (N + 3) (N + 4) .none ∧ IsTupOf3 h (N + 3) (.ref N) (.ref (N + 1)) (.ref (N + 2)) ∧ (∃ x y z, IsTupOf3 h (N + 4) x y z) ∧ IsSqIter h t1 N a i ∧ IsSqIter h t2 (N + 1) b i ∧ IsSqIter h t3 (N + 2) c i) := by
  have S : ZipSep3 (N + 5) (N + 3) (N + 4) N (N + 1) (N + 2) [N, a] [N + 1, b] [N + 2, c] := zip_sep3 (fp1 := [a]) (fp2 := [b]) (fp3 := [c]) (fun d hd => by rw [List.mem_singleton.mp hd]; exact ha) (fun d hd => by rw [List.mem_singleton.mp hd]; exact hb) (fun d hd => by rw [List.mem_singleton.mp hd]; exact hc)
  have na : a ≠ N := Nat.ne_of_lt ha
  have nb : b ≠ N + 1 := Nat.ne_of_lt (Nat.lt_succ_of_lt hb)
  have nc : c ≠ N + 2 := Nat.ne_of_lt (Nat.lt_of_lt_of_le hc (Nat.le_add_right _ _))
  have wsub : ∀ d ∈ [N + 5, N + 4, N, N + 1, N + 2], d ∈ [N + 5, N + 3, N + 4, N, N + 1, N + 2] := fun d hd => by
    simp only [List.mem_cons, List.not_mem_nil, or_false] at hd
    rcases hd with h | h | h | h | h <;> rw [h] <;> simp
  refine turn_of (by simp) (fun i h st d hd => ?_) (fun i h h' st k => ?_) (fun X hP hw hK hh i pins s σ H I st hg => ?_) (fun X hP hw hK hh i pins s σ H I st hg => ?_) (fun A i s Q E st h => wpAny_pyIter_zip st.1 h)
  · obtain ⟨hz, hTI, ⟨x, y, z, hTO⟩, h1, h2, h3⟩ := st
    have e' : d = N + 5 ∨ d = N + 3 ∨ d = N + 4 ∨ d = N ∨ d = N + 1 ∨ d = N + 2 := by simpa using hd
    rcases e' with q | q | q | q | q | q
    · rw [q]; exact ⟨_, hz, fun v q => nomatch q⟩
    · rw [q]; exact ⟨_, hTI, fun v q => nomatch q⟩
    · rw [q]; exact ⟨_, hTO, fun v q => nomatch q⟩
    · rw [q]; exact h1.ob
    · rw [q]; exact h2.ob
    · rw [q]; exact h3.ob
  · obtain ⟨hz, hTI, ⟨x, y, z, hTO⟩, h1, h2, h3⟩ := st
    exact ⟨k _ (by simp) _ hz, k _ (by simp) _ hTI, ⟨x, y, z, k _ (by simp) _ hTO⟩, h1.at fun o q => k N (by simp) o q, h2.at fun o q => k (N + 1) (by simp) o q, h3.at fun o q => k (N + 2) (by simp) o q⟩
  · subst hP hw hK
    obtain ⟨hz, hTI, ⟨x0, y0, z0, hTO⟩, h1, h2, h3⟩ := st
    obtain ⟨xs, ys, zs, x, y, z, qx, qy, qz, hx, hy, hzz⟩ := hg
    obtain ⟨its, rv, p1, _⟩ := sq_get I qx
    obtain ⟨its2, rv2, p2, _⟩ := sq_get I qy
    obtain ⟨its3, rv3, p3, _⟩ := sq_get I qz
    refine ⟨_, _, _, _, _, GoesN.zip3 S (drawsB (A := X.A.in1) hh t1 N a na its.toArray) (drawsB (A := X.A.in1) hh t2 (N + 1) b nb its2.toArray) (drawsB (A := X.A.in1) hh t3 (N + 2) c nc its3.toArray), wsub, ?_,
      ⟨hz, hTI, ⟨x0, y0, z0, hTO⟩, ⟨h1, p1⟩, ⟨h2, p2⟩, ⟨h3, p3⟩⟩, fun h' st' => ?_, fun v h' y' => ?_⟩
    · have l1 := get_arr rv hx
      have l2 := get_arr rv2 hy
      have l3 := get_arr rv3 hzz
      omega
    · obtain ⟨z1, z2, z3, z4, z5, z6⟩ := st'
      exact ⟨z1, z2, z3, z4.1, z5.1, z6.1⟩
    · obtain ⟨T, u, u2, u3, rfl, hT, hu, hu2, hu3, hI⟩ := y'
      refine ⟨T, [x, y, z], [u, u2, u3], rfl, hT, .cons (rel_arr rv hx hu) (.cons (rel_arr rv2 hy hu2) (.cons (rel_arr rv3 hzz hu3) .nil)), by show 3 ≤ sizeLine; decide, hI, fun hn => ⟨T, x, y, z, rfl, hn, rfl, fun l hl => ?_, fun l hl => ?_, fun l hl => ?_⟩⟩
      · rw [sq_inj I hl qx]; exact hx
      · rw [sq_inj I hl qy]; exact hy
      · rw [sq_inj I hl qz]; exact hzz
  · subst hP hw hK
    obtain ⟨hz, hTI, ⟨x0, y0, z0, hTO⟩, h1, h2, h3⟩ := st
    obtain ⟨xs, ys, zs, qx, qy, qz, e⟩ := hg
    obtain ⟨its, rv, p1, _⟩ := sq_get I qx
    obtain ⟨its2, rv2, p2, _⟩ := sq_get I qy
    obtain ⟨its3, rv3, p3, _⟩ := sq_get I qz
    have G := GoesN.zip3 (elts := elts) (x1 := kk) (pos := tpos) S (drawsB (prog := X.prog) (w := X.w) (A := X.A.in1) hh t1 N a na its.toArray) (drawsB (A := X.A.in1) hh t2 (N + 1) b nb its2.toArray) (drawsB (A := X.A.in1) hh t3 (N + 2) c nc its3.toArray)
    have ei : min (min its.toArray.size its2.toArray.size) its3.toArray.size = i := by rw [size_arr rv, size_arr rv2, size_arr rv3, e]
    rw [ei] at G
    exact ⟨_, _, _, _, G, wsub, hz, hTI, ⟨x0, y0, z0, hTO⟩, ⟨h1, p1⟩, ⟨h2, p2⟩, ⟨h3, p3⟩⟩
def iZip3 (K : PySem.W.Frag) (t1 t2 t3 : Bool) (ta : TA) : TI := fun σ H R => ta σ H fun vs H1 => ∃ a b c xs ys zs, vs = [.ref a, .ref b, .ref c] ∧ SqB K H1 t1 a xs ∧ SqB K H1 t2 b ys ∧ SqB K H1 t3 c zs ∧ R (Itz3 K t1 a t2 b t3 c) H1
theorem pi_zip3 {X : Cx} {e e2 e3 : Expr} {ta : TA} {p pos tpos : Pos} {elts : List Expr} {kk : Nat} (t1 t2 t3 : Bool) (hg : Gl X "zip") (hm : X.mg "zip" = none) (ha : PA X [e, e2, e3] ta)
    (hs : starEach [e, e2, e3] X.env = (false, eval e X.env) :: starEach [e2, e3] X.env := by rfl) (hpl : (backTo pos (starEach [e2, e3] X.env)).any (·.1) = false := by rfl) :
    PI X (.Tuple elts kk tpos) (.Call (.Name "zip" p) [e, e2, e3] [] pos) (iZip3 X.K t1 t2 t3 ta) := by
  refine ⟨fun pins s σ H R I h => ?_⟩
  refine Call_ (ld_blt I hg hm PyProof.Rows.boot_zip (PyProof.Rows.callWith_type1 (thn (ha.run pos pins s σ H _ I h) fun us s1 ⟨vs, H1, I1, r1, q1⟩ => ?_) hs hpl))
  obtain ⟨a, b, c, xs, ys, zs, ex, qx, qy, qz, q⟩ := q1
  subst ex
  cases r1 with
  | cons r rr =>
    cases rr with
    | cons r' rr =>
      cases rr with
      | cons r'' rr =>
        cases rr
        cases r
        cases r'
        cases r''
        obtain ⟨its, rv, p1, _⟩ := sq_get I1 qx
        obtain ⟨its2, rv2, p2, _⟩ := sq_get I1 qy
        obtain ⟨its3, rv3, p3, _⟩ := sq_get I1 qz
        obtain ⟨o1, B1, b1⟩ := beginsB t1 a its.toArray
        obtain ⟨o2, B2, b2⟩ := beginsB t2 b its2.toArray
        obtain ⟨o3, B3, b3⟩ := beginsB t3 c its3.toArray
        refine zip_begins3 B1 B2 B3 p1 p2 p3 fun h' hz hTI hTO h1 h2 h3 hsz hk => wpAny_pyIter_zip hz ?_
        have I2 : Inv X pins σ H1 { s1 with heap := h' } := I1.kept (t' := s1.toks) hk
        refine ⟨s1.heap.objs.size + 5, [s1.heap.objs.size + 5, s1.heap.objs.size + 3, s1.heap.objs.size + 4, s1.heap.objs.size, s1.heap.objs.size + 1, s1.heap.objs.size + 2], _, _, H1, rfl, I2, turn_zip3 p1.lt p2.lt p3.lt, ⟨hz, hTI, ⟨_, _, _, hTO⟩, b1 _ _ h1, b2 _ _ h2, b3 _ _ h3⟩, fun d hdm => ?_, q⟩
        have hle : s1.heap.objs.size ≤ d := by
          have e' : d = s1.heap.objs.size + 5 ∨ d = s1.heap.objs.size + 3 ∨ d = s1.heap.objs.size + 4 ∨ d = s1.heap.objs.size ∨ d = s1.heap.objs.size + 1 ∨ d = s1.heap.objs.size + 2 := by simpa using hdm
          rcases e' with z | z | z | z | z | z
          · rw [z]; exact Nat.le_add_right _ _
          · rw [z]; exact Nat.le_add_right _ _
          · rw [z]; exact Nat.le_add_right _ _
          · rw [z]; exact Nat.le_refl _
          · rw [z]; exact Nat.le_add_right _ _
          · rw [z]; exact Nat.le_add_right _ _
        exact I1.fpOk hle (I1.hok.fresh hle)
/-- a new triple -/
def YTrip (xs ys zs : Nat → Option V) : Nat → Hp → V → Hp → Prop := fun i H v H' => ∃ T x y z, v = .ref T ∧ H T = none ∧ H' = upd H T (.tup [x, y, z]) ∧ xs i = some x ∧ ys i = some y ∧ zs i = some z
theorem walk_zip3 {K : PySem.W.Frag} {t1 t2 t3 : Bool} {a b c : Addr} {xs ys zs : List V} {n : Nat} (hn : n = min (min xs.length ys.length) zs.length) :
    Walk (Itz3 K t1 a t2 b t3 c) n (fun H => SqB K H t1 a xs ∧ SqB K H t2 b ys ∧ SqB K H t3 c zs) (YTrip (fun i => xs[i]?) (fun i => ys[i]?) (fun i => zs[i]?)) := by
  subst hn
  refine ⟨fun i _ hi q => ?_, fun _ q => ⟨xs, ys, zs, q.1, q.2.1, q.2.2, rfl⟩, fun i H v H' _ q y => ?_⟩
  · have h1 : i < xs.length := by omega
    have h2 : i < ys.length := by omega
    have h3 : i < zs.length := by omega
    exact ⟨xs, ys, zs, xs[i], ys[i], zs[i], q.1, q.2.1, q.2.2, by simp [h1], by simp [h2], by simp [h3]⟩
  · obtain ⟨T, x, z, u, h1, h2, h3, h4, h5, h6⟩ := y
    exact ⟨T, x, z, u, h1, h2, h3, h4 xs q.1, h5 ys q.2.1, h6 zs q.2.2⟩
end J

set_option Elab.async false
set_option linter.all false
set_option maxRecDepth 100000
set_option maxHeartbeats 4000000
/-! JR2: enumerate of a list or a tuple; a target with a star at its end; an attribute as a target. -/
namespace PySem
open Sem (wp)
open AutoSeq1 (wpAny_loadPart')
set_option maxHeartbeats 1000000 in
theorem meets_enumerate_newJ {v : Value} {o : Obj} {H : Heap → Prop} (B : Begins v o H) :
    Meets (Builtin.«enumerate.__new__» ⟨[.type "enumerate", v], []⟩) (fun _ R s => H s.heap ∧
      R (.ok (.ret (.ref (s.heap.push o).objs.size))) { s with heap := (s.heap.push o).push { cls := .type "enumerate", data := .fields #[.none, .bool false, .ref s.heap.objs.size, rawInt 0, .none, .none] } }) :=
  .of_wp fun prog w A R s ⟨begun, out⟩ => by
    have sub := sub_enumerate
    cases s with | mk hp g dr tk os
    have it : ∀ {A' : Around} {E Q : Value → Shared → Prop}, Q (.ref hp.objs.size) ⟨hp.push o, g, dr, tk, os⟩ → wpAny (model prog w) A' (pyIter v) Q E ⟨hp, g, dr, tk, os⟩ := B.iter prog w _ _ _ _ begun
    wp_walk using it
    refine wpAny_stack_any fun _ => wpAny_pure ?_
    split
    · rename_i c _ _ _ _ _
      cases (c == Value.type "enumerate") <;> (wp_walk using it; exact ⟨_, rfl, out⟩)
    · wp_walk using it
      exact ⟨_, rfl, out⟩
theorem enum_begins1 {prog : Program} {w : World} {A : Around} {E : Value → Shared → Prop} {s : Shared} {v : Value} {o : Obj} {H : Heap → Prop} {Q : Value → Shared → Prop} (B : Begins v o H) (h1 : H s.heap)
    (h : ∀ h', IsEnum h' (s.heap.objs.size + 1) s.heap.objs.size 0 .none → h'.get? s.heap.objs.size = some o → h'.objs.size = s.heap.objs.size + 2 →
      (∀ b o, s.heap.get? b = some o → h'.get? b = some o) → Q (.ref (s.heap.objs.size + 1)) { s with heap := h' }) :
    wpAny (model prog w) A (call (.type "enumerate") [v]) Q E s := by
  refine callType_new F.called_enumerate (by decide) (F.typeCall_enumerate_1 _) (F.newCall_enumerate_1 _) (fun obj => F.args_object_init_2 obj _) F.entry_enumerate_new
    (meets_enumerate_newJ B) ⟨h1, ?_⟩
  have hz : (s.heap.push o).objs.size = s.heap.objs.size + 1 := Heap.size_push ..
  show _ ∧ _
  rw [hz]
  have he : IsEnum ((s.heap.push o).push { cls := .type "enumerate", data := .fields #[.none, .bool false, .ref s.heap.objs.size, rawInt 0, .none, .none] }) (s.heap.objs.size + 1) s.heap.objs.size 0 .none := by
    have := Heap.get?_push_size (s.heap.push o) (o := { cls := .type "enumerate", data := .fields #[.none, .bool false, .ref s.heap.objs.size, rawInt 0, .none, .none] }) rfl
    rw [hz] at this; exact this
  refine ⟨⟨_, he, rfl⟩, h _ he (Heap.get?_push_of_some _ (Heap.get?_push_size _ B.free)) (by rw [Heap.size_push, hz]) fun b o x => Heap.get?_push_of_some _ (Heap.get?_push_of_some _ x)⟩
end PySem
namespace J
open PySem PySem.Spec PyProof.Rows L2
/-! ### enumerate -/
def Ite2 (K : PySem.W.Frag) (t : Bool) (a : Addr) : It :=
  ⟨fun i H => ∃ (xs : List V) (x : V), SqB K H t a xs ∧ xs[i]? = some x,
    fun i H v H' => ∃ T x, v = .ref T ∧ H T = none ∧ H' = upd H T (.tup [.int (i : Nat), x]) ∧ ∀ xs, SqB K H t a xs → xs[i]? = some x,
    fun i H => ∃ xs : List V, SqB K H t a xs ∧ i = xs.length⟩
theorem turn_enum2 {P : Program} {w : World} {K : PySem.W.Frag} {elts : List Expr} {kk : Nat} {tpos : Pos} {t : Bool} {a N : Addr} (ha : a < N) :
    Turn P w K (.Tuple elts kk tpos) (Ite2 K t a) [N + 1, N] (N + 1) (fun i h => (∃ old, IsEnum h (N + 1) N (0 + ((i : Nat) : Int)) old) ∧ IsSqIter h t N a i) := by
  have na : a ≠ N := Nat.ne_of_lt ha
  have ne1 : (N + 1 : Nat) ≠ N := Nat.succ_ne_self _
  have nef : N + 1 ∉ [N, a] := fun hm => by
    simp only [List.mem_cons, List.not_mem_nil, or_false] at hm
    rcases hm with z | z
    · exact ne1 z
    · have l : a < N + 1 := Nat.lt_succ_of_lt ha
      rw [← z] at l
      exact Nat.lt_irrefl _ l
  refine turn_of (by simp) (fun i h st c hc => ?_) (fun i h h' st k => ?_) (fun X hP hw hK hh i pins s σ H I st hg => ?_) (fun X hP hw hK hh i pins s σ H I st hg => ?_) (fun A i s Q E st h => let ⟨⟨_, he⟩, _⟩ := st; wpAny_pyIter_enum he h)
  · obtain ⟨⟨old, he⟩, h1⟩ := st
    have e' : c = N + 1 ∨ c = N := by simpa using hc
    rcases e' with q | q
    · rw [q]; exact ⟨_, he, fun v q => nomatch q⟩
    · rw [q]; exact h1.ob
  · obtain ⟨⟨old, he⟩, h1⟩ := st
    exact ⟨⟨old, k _ (by simp) _ he⟩, h1.at fun o q => k N (by simp) o q⟩
  · subst hP hw hK
    obtain ⟨he, h1⟩ := st
    obtain ⟨xs, x, qx, hx⟩ := hg
    obtain ⟨its, rv, p1, _⟩ := sq_get I qx
    refine ⟨_, _, _, _, _, GoesN.enumFrom 0 (drawsB (A := X.A.in1) hh t N a na its.toArray) (N + 1) ne1 nef (by simp), fun b hb => by simpa using hb, get_arr rv hx, ⟨he, h1, p1⟩, fun h' st' => ?_, fun v h' y' => ?_⟩
    · exact ⟨st'.1, st'.2.1⟩
    · obtain ⟨T, tk, u, rfl, hT, hu, hI⟩ := y'
      have e0 : (0 : Int) + ((i : Nat) : Int) = ((i : Nat) : Int) := Int.zero_add _
      rw [e0] at hI
      exact ⟨T, [.int ((i : Nat) : Int), x], [.int ((i : Nat) : Int) tk, u], rfl, hT, .cons ⟨_, rfl⟩ (.cons (rel_arr rv hx hu) .nil), by show 2 ≤ sizeLine; decide, hI, fun hn => ⟨T, x, rfl, hn, rfl, fun l hl => by rw [sq_inj I hl qx]; exact hx⟩⟩
  · subst hP hw hK
    obtain ⟨he, h1⟩ := st
    obtain ⟨xs, qx, e⟩ := hg
    obtain ⟨its, rv, p1, _⟩ := sq_get I qx
    have G := GoesN.enumFrom (elts := elts) (x1 := kk) (pos := tpos) 0 (drawsB (prog := X.prog) (w := X.w) (A := X.A.in1) hh t N a na its.toArray) (N + 1) ne1 nef (by simp)
    have ei : its.toArray.size = i := by rw [size_arr rv, e]
    rw [ei] at G
    exact ⟨_, _, _, _, G, fun b hb => by simpa using hb, he, h1, p1⟩
def iEnum2 (K : PySem.W.Frag) (t : Bool) (ta : TA) : TI := fun σ H R => ta σ H fun vs H1 => ∃ a xs, vs = [.ref a] ∧ SqB K H1 t a xs ∧ R (Ite2 K t a) H1
theorem pi_enum2 {X : Cx} {e : Expr} {ta : TA} {p pos tpos : Pos} {elts : List Expr} {kk : Nat} (t : Bool) (hg : Gl X "enumerate") (hm : X.mg "enumerate" = none) (ha : PA X [e] ta) (hs : starEach [e] X.env = [(false, eval e X.env)] := by rfl) :
    PI X (.Tuple elts kk tpos) (.Call (.Name "enumerate" p) [e] [] pos) (iEnum2 X.K t ta) := by
  refine ⟨fun pins s σ H R I h => ?_⟩
  refine Call_ (ld_blt I hg hm boot_enumerate (PyProof.Rows.callWith_type1 (thn (ha.run pos pins s σ H _ I h) fun us s1 ⟨vs, H1, I1, r1, q1⟩ => ?_) hs rfl))
  obtain ⟨a, xs, ex, qx, q⟩ := q1
  subst ex
  cases r1 with
  | cons r rr =>
    cases rr
    cases r
    obtain ⟨its, rv, p1, _⟩ := sq_get I1 qx
    obtain ⟨o1, B1, b1⟩ := beginsB t a its.toArray
    refine enum_begins1 B1 p1 fun h' he h1 hsz hk => wpAny_pyIter_enum he ?_
    have I2 : Inv X pins σ H1 { s1 with heap := h' } := I1.kept (t' := s1.toks) hk
    refine ⟨s1.heap.objs.size + 1, [s1.heap.objs.size + 1, s1.heap.objs.size], _, _, H1, rfl, I2, turn_enum2 p1.lt, ⟨⟨.none, he⟩, b1 _ _ h1⟩, fun b hb => ?_, q⟩
    have hle : s1.heap.objs.size ≤ b := by
      have e' : b = s1.heap.objs.size + 1 ∨ b = s1.heap.objs.size := by simpa using hb
      rcases e' with z | z
      · rw [z]; exact Nat.le_add_right _ _
      · rw [z]; exact Nat.le_refl _
    exact I1.fpOk hle (I1.hok.fresh hle)
theorem walk_enum2 {K : PySem.W.Frag} {t : Bool} {a : Addr} {xs : List V} : Walk (Ite2 K t a) xs.length (fun H => SqB K H t a xs) (YPair (fun i => some (.int (i : Nat))) (fun i => xs[i]?)) := by
  refine ⟨fun i _ hi q => ⟨xs, xs[i], q, by simp [hi]⟩, fun _ q => ⟨xs, q, rfl⟩, fun i H v H' _ q y => ?_⟩
  obtain ⟨T, x, h1, h2, h3, h4⟩ := y
  exact ⟨T, .int (i : Nat), x, h1, h2, h3, rfl, h4 xs q⟩

/-! ### a, *b = t -/
theorem unpack_star {P : Program} {w : World} {A : Around} {E : Value → Shared → Prop} {s : Shared} {l : Addr} {items : Array Value} {i : Nat} {Q : List Value → Shared → Prop} (hl : IsTup s.heap l items) (hh : A.handled = none) (hi : i ≤ items.size) (hz : items.size ≤ sizeLine)
    (h : ∀ (h2 : Heap) (tk : Nat), (∀ b o, s.heap.get? b = some o → h2.get? b = some o) → Q (items.toList.take i ++ [.ref h2.objs.size]) { s with heap := h2.push { cls := .type "list", data := .seq (items.toList.drop i).toArray }, toks := tk }) :
    wpAny (model P w) A (unpackItems (.ref l) (i + 1) (some i)) Q E s := by
  have lt : l < s.heap.objs.size := let ⟨_, ho, _⟩ := hl; Heap.lt_size ho
  have ne := Nat.ne_of_lt lt
  have len1 : (items.toList.take i).length = i := by rw [List.length_take, Array.length_toList]; omega
  have len2 : (items.toList.drop i).length = items.size - i := by rw [List.length_drop, Array.length_toList]
  unfold unpackItems notIterableAtAll
  refine wpAny_bind (wpAny_bind (wpAny_specialOf hl.typeIs slot_tuple_iter.lookup (wpAny_pure ?_)))
  show wpAny _ _ (holding [.ref l] (pyIter (.ref l)) >>= _) _ _ _
  -- the first i, one by one
  refine wpAny_bind (wpAny_holding (iter_tuple hl (wpAny_bind (wpAny_holding (draw_tuple ne i 0 _ _ ⟨_, Heap.get?_push_size _ rfl, rfl, rfl⟩ (hl.push _) (by omega) fun h1 it1 sb1 => ?_)))))
  rw [Nat.zero_add] at it1
  rw [List.drop_zero, if_neg (show ¬ ((items.toList.take i).length < i) by rw [len1]; omega)]
  have hl1 : IsTup h1 l items := (hl.push _).extBut sb1.extBut ne
  have keep1 : ∀ b o, s.heap.get? b = some o → h1.get? b = some o := fun b o e => sb1.extBut b o (Nat.ne_of_lt (Heap.lt_size e)) (Heap.get?_push_of_some _ e)
  -- what is left, at once
  refine wpAny_bind (wpAny_holding (PySem.W.kun_collect (s := { s with heap := h1 }) (T := "tuple_iterator") (.inr (.inr (.inr rfl))) (Walks.tuple (A := A.in1) hh s.heap.objs.size l ne items) (fun _ _ st => st.1.typeIs) hi ⟨it1, hl1⟩ (let ⟨_, e, _⟩ := it1; Heap.lt_size e) (let ⟨_, e, _⟩ := hl1; Heap.lt_size e) (fun h2 tk k2 => ?_) hz))
  generalize er : items.toList.drop i = rest at h len2
  have all : rest.length - (i + 1 - 1 - i) = rest.length := by omega
  refine wp_if_neg (show ¬ (rest.length < i + 1 - 1 - i) by omega) ?_
  show wpAny _ _ (newList (rest.take (rest.length - (i + 1 - 1 - i))) >>= fun d => pure (items.toList.take i ++ [d] ++ rest.drop (rest.length - (i + 1 - 1 - i)))) _ _ _
  rw [all, List.take_length, List.drop_length]
  unfold newList
  refine wpAny_bind (wpAny_newObj_type (wpAny_pure ?_) (by show rest.toArray.size ≤ sizeLine; rw [List.size_toArray, len2]; omega))
  rw [List.append_nil]
  exact h h2 tk fun b o e => k2 b o (Nat.ne_of_lt (Heap.lt_size e)) (keep1 b o e)
def gStar (K : PySem.W.Frag) (n : Nat) (t : TGs) : TG := fun v σ H Q => ∃ a xs, v = .ref a ∧ SqT K H a xs ∧ n ≤ xs.length ∧ ∀ D, H D = none → t (xs.take n ++ [.ref D]) σ (upd H D (.lst (xs.drop n))) Q
theorem pg_star {X : Cx} {pos : Pos} {es : List Expr} {k : Nat} {t : TGs} {n : Nat} (hc : X.calm = true) (h : PGs X es t)
    (hn : (assignEach es X.env).length = n + 1 := by rfl) (hst : (assignEach es X.env).findIdx? (·.1) = some n := by rfl) : PG X (.Tuple es k pos) (gStar X.K n t) := by
  refine ⟨fun pins s σ H v u Q I r hw => ?_⟩
  obtain ⟨a, xs, e1, hq, hl, hw⟩ := hw
  subst e1
  cases r
  obtain ⟨its, rv, ht, hz⟩ := I.tuple hq
  have hlen := rv.length
  rw [assign_Tuple]
  refine wpAny_bind (wpAny_standAt ?_)
  unfold unpack
  rw [hn, hst]
  refine wpAny_bind (wpAny_holding (unpack_star ht (I.ok.hd hc) (by simp; omega) (by simp; omega) fun h2 tk hk => ?_))
  have I1 : Inv X pins σ H { s with heap := h2, toks := tk } := I.kept (t' := tk) hk
  have hD : H h2.objs.size = none := I1.hok.fresh (Nat.le_refl _)
  have I2 : Inv X pins σ (upd H h2.objs.size (.lst (xs.drop n))) { s with heap := h2.push { cls := .type "list", data := .seq (its.toArray.toList.drop n).toArray }, toks := tk } :=
    I1.laid (t' := tk) (fun _ _ q => Heap.get?_push_of_some _ q) (Nat.le_refl _) ⟨by rw [List.length_drop]; omega, _, 0, rv.drop n, Heap.get?_push_size _ rfl⟩
  exact h.run pins _ σ _ _ _ Q I2 ((rv.take n).append (.cons (show RelV (V.ref h2.objs.size) (Value.ref h2.objs.size) from rfl) .nil)) (hw _ hD)
theorem pgs_star {X : Cx} {e : Expr} {p : Pos} {t : TG} (h1 : PG X e t) : PGs X [.Starred e p] (gCons t gNil) := by
  refine ⟨fun pins s σ H vs us Q I r h => ?_⟩
  obtain ⟨v, vr, e1, h⟩ := h
  subst e1
  cases r with
  | cons r rr =>
    show wpAny _ _ (assignInOrder [assign e X.env] _) _ _ _
    refine assignInOrder_cons (thn (h1.run pins s σ H _ _ _ I r h) fun _ s1 ⟨σ1, H1, I1, q1⟩ => ?_)
    obtain ⟨e2, q1⟩ := q1
    subst e2
    cases rr
    exact assignInOrder_nil ⟨σ1, H1, I1, q1⟩

/-! ### o.f as a target -/
def gFld (K : PySem.W.Frag) (to : TE) (f : Str) : TG := fun v σ H Q => to σ H fun x H1 => ∃ a C dx fs, x = .ref a ∧ H1 a = some (.ins C dx fs) ∧ Cls K C ∧ NoAttr K C f ∧ fs.length < 1000 ∧ Q σ (upd H1 a (.ins C dx (putF f v fs)))
theorem pg_fld {X : Cx} {pos : Pos} {o : Expr} {to : TE} {f : Str} (ho : PE X o to) : PG X (.Attribute o f pos) (gFld X.K to f) := by
  refine ⟨fun pins s σ H v u Q I r h => ?_⟩
  have ha : assign (.Attribute o f pos) X.env u = (do
      let ov ← holding [u] (eval o X.env)
      standAt pos.atName
      holding [u, ov] (setAttr ov f u)
      release [u, ov] []) := rfl
  rw [ha]
  refine wpAny_bind (wpAny_holding (thn (ho.run pins s σ H _ I h) fun ov s1 ⟨x, H1, I1, r1, a, C, dx, fs, ex, ea, c, n, l, q⟩ => ?_))
  subst ex
  obtain rfl : ov = Value.ref a := r1
  refine wpAny_bind (wpAny_standAt (wpAny_bind (wpAny_holding (setattr_ok I1 ea c n l r fun s3 I3 => ?_))))
  exact wpAny_release ⟨σ, _, I3, q⟩
end J

set_option Elab.async false
set_option linter.all false
set_option maxRecDepth 100000
set_option maxHeartbeats 4000000
/-! JS1: {x} | (a set of few ints). -/
namespace J
open PySem PySem.Spec PyProof.Rows L2

/-- one hash, laid clean at mask 15 -/
theorem own15 : ∀ i, i < 16 → ((List.range 16).filterMap fun j => ((((Array.replicate 16 (none : Option Nat)).setIfInBounds i (some 0)).getD j none).map (j, ·))) = [(i, 0)] := by decide +kernel
theorem free15 : ∀ i, i < 16 → ((List.range (SetTable.runEnd 15 i + 1 - i)).find? fun k => ((Array.replicate 16 (none : Option Nat)).getD (i + k) (some 0)).isNone) = some 0 := by decide +kernel
theorem relaid1 (t : SetTable) (h : Int) {wanted : Nat} (hw : SetTable.sizeAbove wanted = 16) :
    t.relaid #[h] wanted = some ({ mask := 15, place := #[SetTable.bits h % 16], dummies := #[], finger := t.finger, led := t.led, moves := t.movedTo 15, plain := t.plain }, #[0]) := by
  have hi : SetTable.bits h % 16 < 16 := Nat.mod_lt _ (by decide)
  have e1 : SetTable.layClean 15 #[h] = some ((Array.replicate 16 (none : Option Nat)).setIfInBounds (SetTable.bits h % 16) (some 0)) := by
    rw [layClean_eq]
    have ef : SetTable.layClean.free 15 (Array.replicate 16 none) (SetTable.turns 15) (SetTable.bits h % 16) (SetTable.bits h) = some (SetTable.bits h % 16) := by
      show SetTable.layClean.free 15 (Array.replicate 16 none) (29 + 1) (SetTable.bits h % 16) (SetTable.bits h) = some (SetTable.bits h % 16)
      rw [SetTable.layClean.free, free15 _ hi]
      rfl
    have es := stepF_some (m := 15) (k := 0) (owner := Array.replicate 16 none) (h := h) ef
    show (some (Array.replicate 16 none, 0) |> fun acc => stepF 15 acc h).map (·.1) = _
    show (stepF 15 (some (Array.replicate 16 none, 0)) h).map (·.1) = _
    rw [es]
    rfl
  rw [relaid_eq, hw]
  show (SetTable.layClean 15 #[h]).bind _ = _
  rw [e1]
  show some (tabOf t 15 _, ((liveOf 15 _).map (·.2)).toArray) = _
  have el : liveOf 15 ((Array.replicate 16 (none : Option Nat)).setIfInBounds (SetTable.bits h % 16) (some 0)) = [(SetTable.bits h % 16, 0)] := own15 _ hi
  unfold tabOf
  rw [el]
  rfl

/-- the first one laid -/
def tab1 (led : Bool) (i : Nat) : SetTable := { mask := 7, place := #[i], dummies := #[], finger := 0, led := led, moves := 0, plain := true }
theorem layNew1 (led : Bool) (h : Int) (x : Value) : layNew (.fresh 0 0 led) #[] h x = (#[(h, x)], tab1 led (SetTable.bits h % 8), false, false) := by
  have e : (SetTable.fresh 0 0 led).slot (SetTable.bits h % 8) = .empty := slot_empty rfl (by show _ ∉ ([] : List Nat); simp)
  have ef : (SetTable.fresh 0 0 led).freeSlot h = some (SetTable.bits h % 8, false) := by
    unfold SetTable.freeSlot SetTable.probe
    show (match SetTable.probe.go (SetTable.fresh 0 0 led) (fun _ => h + 1) h (219 + 1) ((SetTable.fresh 0 0 led).probeStart h) with | some (.empty j dummy) => some (dummy.getD j, dummy.isSome) | _ => none) = _
    rw [SetTable.probe.go]
    have ej : ((SetTable.fresh 0 0 led).probeStart h).j = SetTable.bits h % 8 := rfl
    rw [ej, e]
    rfl
  unfold layNew
  rw [ef]
  rfl

/-- a set of one int, its table as it was made -/
def Set1 (w : World) (h : Heap) (a : Addr) (k : Int) : Prop := ∃ tk ep, h.get? a = some { cls := .type "set", dict := none, data := .set #[(hashInt k, .int k tk)] ep (tab1 (!w.params.followText "set-order") (SetTable.bits (hashInt k) % 8)) }
theorem Set1.setR {w : World} {h : Heap} {a : Addr} {k : Int} (x : Set1 w h a k) : SetR w h a (fun j => decide (j = k)) 1 := by
  obtain ⟨tk, ep, e⟩ := x
  refine ⟨_, _, ep, _, e, ⟨rfl, rfl, rfl⟩, rfl, fun e he => ?_, ?_, fun j => ?_, (by show 1 < 4096; decide), by rfl, rfl, ?_, ?_⟩
  · have e' : e = (hashInt k, Value.int k tk) := by simpa using he
    rw [e']
    exact ⟨k, tk, rfl, rfl⟩
  · show [k].Nodup
    simp
  · show decide (j = k) = true ↔ j ∈ [k]
    simp
  · show Ris [_]
    simp [Ris]
  · show _ ∨ (!w.params.followText "set-order") = true
    cases w.params.followText "set-order"
    · exact .inr rfl
    · exact .inl rfl
section
variable {P : Program} {w : World} {A : Around} {E : Value → Shared → Prop} {s : Shared} {a : Addr}
theorem set1_add {k : Int} {tk : Tok} {Q : Bool → Shared → Prop} (ho : s.heap.get? a = some { cls := .type "set", dict := none, data := .set #[] 0 (.fresh 0 0 (!w.params.followText "set-order")) })
    (hQ : ∀ h', Heap.SameBut a s.heap h' → Set1 w h' a k → Q true { s with heap := h' }) :
    wpAny (model P w) A (setAddHashed a (.int k tk) (hashInt k)) Q E s := by
  have hf : (SetTable.fresh 0 0 (!w.params.followText "set-order")).fits (#[] : Array (Int × Value)).size = true := rfl
  unfold setAddHashed setAddHashedIn
  refine wpAny_holding (wpAny_bind (wpAny_setState_of ho rfl hf ?_))
  dsimp only
  refine wp_if_pos (by simp [byScan, Value.scannable, scanBound]) ?_
  unfold setAddByScan
  refine wpAny_bind ?_
  refine wpAny_bind (wpAny_rule ?_)
  refine wpAny_bind (m := setScan a (.int k tk) (hashInt k) true #[]) (wpAny_pure ?_)
  dsimp only
  rw [layNew1]
  dsimp only
  refine wpAny_bind (wpAny_pure ?_)
  refine wp_if_pos rfl ?_
  refine wpAny_bind (m := hashByValue 8 (.int k tk)) (wpAny_pure ?_)
  refine wpAny_bind (wpAny_storeSet_of ho rfl ?_ (by show 1 ≤ sizeLine; decide))
  refine wp_if_neg (fun z => Bool.noConfusion (show false = true from z)) ?_
  refine wpAny_pure (wpAny_pure ?_)
  refine hQ _ (Heap.SameBut.update s.heap a _) ⟨tk, 1, ?_⟩
  exact store_at ho rfl

theorem set_type {h : Heap} {sh : Shared} {a : Addr} {S : Int → Bool} {n : Nat} (e : sh.heap = h) (R : SetR w h a S n) : sh.TypeIs (.ref a) "set" := by
  obtain ⟨o, es, ep, t, ho, hex, _⟩ := R
  exact ⟨o, by rw [e]; exact ho, hex.1⟩
theorem set1_other {h h' : Heap} {b : Addr} {k : Int} (x : Set1 w h b k) (keep : ∀ o, h.get? b = some o → h'.get? b = some o) : Set1 w h' b k := by
  obtain ⟨tk, ep, e⟩ := x
  exact ⟨tk, ep, keep _ e⟩
theorem setR_other {h h' : Heap} {b : Addr} {S : Int → Bool} {n : Nat} (x : SetR w h b S n) (keep : ∀ o, h.get? b = some o → h'.get? b = some o) : SetR w h' b S n := x.at keep

/-- the copy of a set of one -/
theorem copy1 {k : Int} {Q : Value → Shared → Prop} (hS : Set1 w s.heap a k)
    (hQ : ∀ h', (∀ b o, s.heap.get? b = some o → h'.get? b = some o) → Set1 w h' s.heap.objs.size k → Q (.ref s.heap.objs.size) { s with heap := h' }) :
    wpAny (model P w) A (Builtin.Frozenset.copyOf a) Q E s := by
  have R := hS.setR
  have hlt : a < s.heap.objs.size := R.lt
  obtain ⟨tk, ep, e⟩ := hS
  unfold Builtin.Frozenset.copyOf Builtin.Frozenset.baseOf
  refine wpAny_bind (wpAny_bind (wpAny_isInstance (set_type rfl R) PySem.sub_set_self ?_))
  simp only [↓reduceIte]
  refine wpAny_pure ?_
  refine wpAny_bind (PpSet.newSet_ok ?_)
  refine wpAny_bind (m := Builtin.Frozenset.addrOf _) (wpAny_pure ?_)
  generalize hs1 : ({ s with heap := s.heap.push { cls := .type "set", dict := none, data := .set #[] 0 (.fresh 0 0 (!w.params.followText "set-order")) } } : Shared) = s1
  have h1 : s1.heap.get? s.heap.objs.size = some { cls := .type "set", dict := none, data := .set #[] 0 (.fresh 0 0 (!w.params.followText "set-order")) } := by
    rw [← hs1]
    exact Heap.get?_push_size _ rfl
  have k1 : ∀ b o, s.heap.get? b = some o → s1.heap.get? b = some o := fun b o q => by
    rw [← hs1]
    exact Heap.get?_push_of_some _ q
  have h2 := k1 _ _ e
  refine wpAny_bind ?_
  unfold setMerge
  refine wp_if_neg (by simpa using Nat.ne_of_gt hlt) ?_
  try refine wpAny_bind (wpAny_pure ?_)
  refine wpAny_bind (wpAny_setState_of h2 rfl rfl ?_)
  dsimp only
  refine wp_if_neg (by simp) ?_
  try refine wpAny_bind (wpAny_pure ?_)
  unfold setRoomFor
  refine wpAny_bind ?_
  refine wpAny_bind (wpAny_setState_of h1 rfl rfl ?_)
  refine wpAny_pure ?_
  refine wpAny_bind (wpAny_setState_of h1 rfl rfl ?_)
  dsimp only
  refine wpAny_storeSet_of h1 rfl ?_ (by show 1 ≤ sizeLine; decide)
  have fin : ∀ t : SetTable, t = tab1 (!w.params.followText "set-order") (SetTable.bits (hashInt k) % 8) → Q (.ref s.heap.objs.size) { s1 with heap := s1.heap.update s.heap.objs.size (Obj.putSet #[(hashInt k, .int k tk)] t) } := fun t et => by
    subst et
    have sb : Heap.SameBut s.heap.objs.size s1.heap (s1.heap.update s.heap.objs.size (Obj.putSet #[(hashInt k, .int k tk)] (tab1 (!w.params.followText "set-order") (SetTable.bits (hashInt k) % 8)))) := Heap.SameBut.update ..
    have q := hQ _ (fun b o e' => (sb.2 b (Nat.ne_of_lt (Heap.lt_size e'))).trans (k1 b o e')) ⟨tk, 1, store_at h1 rfl⟩
    rw [← hs1] at q ⊢
    exact q
  refine wpAny_pure (fin _ ?_)
  show SetTable.mk _ _ _ _ _ _ _ = SetTable.mk _ _ _ _ _ _ _
  cases w.params.followText "set-order" <;> rfl

theorem set_walk {o : Addr} {S : Int → Bool} {n : Nat} {Q : Array (Int × Value) → Shared → Prop} (hS : SetR w s.heap o S n)
    (hQ : ∀ d l, (∀ e ∈ l.toList, GoodE e) → (∀ k, S k = true ↔ k ∈ l.toList.map keyOf) → l.size = n → Q l { s with drawn := d }) :
    wpAny (model P w) A (setWalk o) Q E s := by
  obtain ⟨ob, es, ep, t, ho, hex, hd, g, nd, hm, hb, hf, hz, hr, hl⟩ := hS
  have of_perm : ∀ (d) (l : Array (Int × Value)), l.toList.Perm es.toList → Q l { s with drawn := d } := fun d l p =>
    hQ d l (fun e he => g e (p.mem_iff.mp he)) (fun k => (hm k).trans (p.map keyOf).mem_iff.symm) (by rw [← Array.length_toList, p.length_eq, Array.length_toList]; exact hz)
  unfold setWalk
  refine wpAny_bind (wpAny_setState_of ho hd hf ?_)
  dsimp only
  refine wpAny_bind (wpAny_byText ?_)
  cases hbt : w.params.followText "set-order" with
  | true =>
    refine wp_if_pos rfl ?_
    refine wpAny_bind (wpAny_askSetting (wpAny_pure ?_))
    exact of_perm s.drawn _ (pick_perm _ es)
  | false =>
    have hled : t.led = true := hl.resolve_left (by rw [hbt]; exact Bool.false_ne_true)
    refine wp_if_neg Bool.false_ne_true ?_
    try refine wpAny_bind (wpAny_pure ?_)
    cases hdr : (!t.plain && decide (es.size > 1)) with
    | true =>
      refine wp_if_pos hdr ?_
      refine wpAny_bind (drawOrder_at _ _ _ _ (Nat.le_of_eq rfl) fun ys d hp => wpAny_pure ?_)
      exact of_perm d _ (by simpa using hp)
    | false =>
      refine wp_if_neg (by show ¬ (!t.plain && decide (es.size > 1)) = true; rw [hdr]; exact Bool.false_ne_true) ?_
      try refine wpAny_bind (wpAny_pure ?_)
      refine wpAny_bind ?_
      show wpAny (model P w) A (if (!t.led && decide (es.size > 1)) = true then unsupported "set:maker-not-led" else pure ()) _ E s
      refine wp_if_neg (by rw [hled]; exact Bool.false_ne_true) ?_
      exact wpAny_pure (wpAny_pure (of_perm s.drawn es (List.Perm.refl _)))

theorem forIn_same {α β : Type} {M : Model} : ∀ (l : List α) (s : Shared) (b : β) (f : α → β → Sem (ForInStep β)) (Q : β → Shared → Prop),
    (∀ a ∈ l, ∀ P : ForInStep β → Shared → Prop, P (.yield b) s → wpAny M A (f a b) P E s) → Q b s → wpAny M A (forIn l b f) Q E s
  | [], s, b, f, Q, _, q => by
    rw [List.forIn_nil]
    exact wpAny_pure q
  | a :: l, s, b, f, Q, hf, q => by
    rw [List.forIn_cons]
    refine wpAny_bind (hf a List.mem_cons_self _ ?_)
    exact forIn_same l s b f Q (fun x hx => hf x (List.mem_cons_of_mem _ hx)) q
theorem setR_good {h : Heap} {a : Addr} {S : Int → Bool} {n : Nat} (R : SetR w h a S n) : ∃ ob es ep t, h.get? a = some ob ∧ ob.data = .set es ep t ∧ t.fits es.size = true ∧ ∀ e ∈ es.toList, GoodE e := by
  obtain ⟨ob, es, ep, t, ho, hex, hd, g, nd, hm, hb, hf, hz, hr, hl⟩ := R
  exact ⟨ob, es, ep, t, ho, hd, hf, g⟩
theorem quiet_sets : ∀ (l : List Addr), (∀ a ∈ l, ∃ S n, SetR w s.heap a S n) → ∀ {Q : Bool → Shared → Prop}, Q true s → wpAny (model P w) A (setsQuiet l) Q E s := by
  intro l hl Q q
  unfold setsQuiet
  refine wpAny_bind (forIn_same l s _ _ _ (fun a ha P hp => ?_) ?_)
  · obtain ⟨S, n, R⟩ := hl a ha
    obtain ⟨ob, es, ep, t, ho, hd, hf, g⟩ := setR_good R
    unfold setEntries
    refine wpAny_bind (wpAny_bind (wpAny_setState_of ho hd hf (wpAny_pure ?_)))
    dsimp only
    rw [← Array.forIn_toList]
    refine wpAny_bind (forIn_same es.toList s _ _ _ (fun e he P2 hp2 => ?_) ?_)
    · obtain ⟨k, tk, e1, _⟩ := g e he
      obtain ⟨h0, v0⟩ := e
      simp only at e1
      subst e1
      exact wpAny_pure hp2
    · exact wpAny_pure hp
  · exact wpAny_pure q

/-- {..} put into a set of one: the members of both -/
theorem walk_unseen {o f : Addr} {S : Int → Bool} {n : Nat} {S1 : Int → Bool} {n1 : Nat} {Q : Array (Int × Value) → Shared → Prop} (hS : SetR w s.heap o S n) (hF : SetR w s.heap f S1 n1) (ne : o ≠ f) (hn : n ≤ 7)
    (hQ : ∀ h' d l, (∀ b u, b ≠ f → s.heap.get? b = some u → h'.get? b = some u) → SetR w h' f S1 n1 → (∀ e ∈ l.toList, GoodE e) → (∀ k, S k = true ↔ k ∈ l.toList.map keyOf) → l.size = n → Q l { s with heap := h', drawn := d }) :
    wpAny (model P w) A (setWalkUnseen o [f] (some f)) Q E s := by
  have stay : ∀ {Q' : Array (Int × Value) → Shared → Prop}, (∀ d l, (∀ e ∈ l.toList, GoodE e) → (∀ k, S k = true ↔ k ∈ l.toList.map keyOf) → l.size = n → Q' l { s with drawn := d }) → wpAny (model P w) A (setWalk o) Q' E s :=
    fun q => set_walk hS fun d l g m z => q d l g m z
  have asit : ∀ d l, (∀ e ∈ l.toList, GoodE e) → (∀ k, S k = true ↔ k ∈ l.toList.map keyOf) → l.size = n → Q l { s with drawn := d } := fun d l g m z => hQ s.heap d l (fun _ _ _ q => q) hF g m z
  obtain ⟨ob, es, ep, t, ho, hex, hd, g, nd, hm, hb, hf, hz, hr, hl⟩ := id hS
  unfold setWalkUnseen
  refine wpAny_bind (wpAny_setState_of ho hd hf ?_)
  dsimp only
  refine wpAny_bind (wpAny_byText ?_)
  cases hc : (w.params.followText "set-order" || (t.led && t.plain) || decide (es.size ≤ 1)) with
  | true =>
    refine wp_if_pos rfl ?_
    exact stay fun d l g m z => asit d l g m z
  | false =>
    refine wp_if_neg Bool.false_ne_true ?_
    try refine wpAny_bind (wpAny_pure ?_)
    refine wpAny_bind (quiet_sets [o, f] (fun a ha => ?_) ?_)
    · rcases List.mem_cons.mp ha with z | z
      · exact ⟨S, n, by rw [z]; exact hS⟩
      · exact ⟨S1, n1, by rw [List.mem_singleton.mp z]; exact hF⟩
    refine wp_if_neg (by simp) ?_
    try refine wpAny_bind (wpAny_pure ?_)
    refine wpAny_bind (wpAny_rule ?_)
    have hbt : w.params.followText "set-order" = false := by
      cases q : w.params.followText "set-order" with
      | false => rfl
      | true => rw [q] at hc; simp at hc
    have hled : t.led = true := hl.resolve_left (by rw [hbt]; exact Bool.false_ne_true)
    obtain ⟨ob1, es1, ep1, t1, ho1, hex1, hd1, g1, nd1, hm1, hb1, hf1, hz1, hr1, hl1⟩ := id hF
    refine wpAny_bind (wpAny_setState_of ho1 hd1 hf1 ?_)
    cases hc1 : (t1.led && !t.led || t1.plain && !t.plain) with
    | false =>
      refine wp_if_neg Bool.false_ne_true ?_
      try refine wpAny_bind (wpAny_pure ?_)
      exact wpAny_pure (asit s.drawn es g hm hz)
    | true =>
      refine wp_if_pos rfl ?_
      have hf2 : ({ t1 with led := t1.led && t.led, plain := t1.plain && t.plain } : SetTable).fits es1.size = true := by cases t1; exact hf1
      refine wpAny_bind (wpAny_storeSet_of ho1 hd1 ?_ (fits_of_scanBound hb1))
      have sb := Heap.SameBut.update s.heap f (Obj.putSet es1 { t1 with led := t1.led && t.led, plain := t1.plain && t.plain })
      refine wpAny_pure (hQ _ s.drawn es (fun b u hbne e => (sb.2 b hbne).trans e) ⟨_, es1, _, _, store_at ho1 hd1, ⟨hex1.1, hex1.2.1, hex1.2.2⟩, rfl, g1, nd1, hm1, hb1, hf2, hz1, hr1, ?_⟩ g hm hz)
      rcases hl1 with z | z
      · exact .inl z
      · refine .inr ?_
        show (t1.led && t.led) = true
        rw [z, hled]
        rfl

/-- a set of one int, of any table -/
def SetI (w : World) (h : Heap) (a : Addr) (k : Int) : Prop := ∃ tk ep t, h.get? a = some { cls := .type "set", dict := none, data := .set #[(hashInt k, .int k tk)] ep t } ∧ t.place.size = 1 ∧ t.dummies = #[] ∧ 1 ≤ t.mask ∧ (w.params.followText "set-order" = true ∨ t.led = true)
theorem SetI.setR {h : Heap} {k : Int} (x : SetI w h a k) : SetR w h a (fun j => decide (j = k)) 1 := by
  obtain ⟨tk, ep, t, e, h1, h2, h3, h4⟩ := x
  have hf : t.fits 1 = true := by
    unfold SetTable.fits SetTable.fill
    rw [h1, h2]
    show ((1 : Nat) == 1 && decide (1 + 0 ≤ t.mask)) = true
    simpa using h3
  refine ⟨_, _, ep, _, e, ⟨rfl, rfl, rfl⟩, rfl, fun e he => ?_, ?_, fun j => ?_, (by show 1 < 4096; decide), hf, rfl, ?_, h4⟩
  · have e' : e = (hashInt k, Value.int k tk) := by simpa using he
    rw [e']
    exact ⟨k, tk, rfl, rfl⟩
  · show [k].Nodup
    simp
  · show decide (j = k) = true ↔ j ∈ [k]
    simp
  · unfold Ris
    cases hp : t.place.toList with
    | nil => exact .nil
    | cons y l =>
      have hz : t.place.toList.length = 1 := h1
      rw [hp] at hz
      cases l with
      | nil => simp
      | cons z l => simp at hz
theorem Set1.i {h : Heap} {k : Int} (x : Set1 w h a k) : SetI w h a k := by
  obtain ⟨tk, ep, e⟩ := x
  refine ⟨tk, ep, _, e, rfl, rfl, (show 1 ≤ 7 by decide), ?_⟩
  show _ ∨ (!w.params.followText "set-order") = true
  cases w.params.followText "set-order"
  · exact .inr rfl
  · exact .inl rfl
theorem room1 {k : Int} {n : Nat} {Q : Unit → Shared → Prop} (hS : Set1 w s.heap a k) (hn : n ≤ 6) (hQ : ∀ h', Heap.SameBut a s.heap h' → SetI w h' a k → Q () { s with heap := h' }) :
    wpAny (model P w) A (setRoomFor a n) Q E s := by
  have hi := hS.i
  obtain ⟨tk, ep, e⟩ := hS
  unfold setRoomFor
  refine wpAny_bind (wpAny_setState_of e rfl rfl ?_)
  have er : (tab1 (!w.params.followText "set-order") (SetTable.bits (hashInt k) % 8)).roomFor n = if (1 + n) * 5 ≥ 7 * 3 then some ((1 + n) * 2) else none := rfl
  dsimp only
  rw [er]
  by_cases hc : (1 + n) * 5 ≥ 7 * 3
  · rw [if_pos hc]
    dsimp only
    have hw : SetTable.sizeAbove ((1 + n) * 2) = 16 := by
      have h4 : 4 ≤ n := by omega
      have : n = 4 ∨ n = 5 ∨ n = 6 := by omega
      rcases this with rfl | rfl | rfl <;> decide +kernel
    rw [setRelay_eq]
    refine wpAny_bind (wpAny_setState_of e rfl rfl ?_)
    dsimp only
    refine wp_if_neg (by rw [hw, sizeLine_eq]; decide) ?_
    try refine wpAny_bind (wpAny_pure ?_)
    have e2 := relaid1 (tab1 (!w.params.followText "set-order") (SetTable.bits (hashInt k) % 8)) (hashInt k) hw
    have e3 : (#[(hashInt k, Value.int k tk)] : Array (Int × Value)).map (·.1) = #[hashInt k] := by simp
    rw [e3, e2]
    dsimp only
    refine wpAny_bind ?_
    refine wp_if_neg (by simp) ?_
    try refine wpAny_bind (wpAny_pure ?_)
    refine wpAny_pure ?_
    dsimp only
    refine wpAny_storeSet_of e rfl ?_ (by show 1 ≤ sizeLine; decide)
    refine hQ _ (Heap.SameBut.update ..) ⟨tk, ep + 1, _, store_at e rfl, rfl, rfl, (show 1 ≤ 15 by decide), ?_⟩
    show _ ∨ (!w.params.followText "set-order") = true
    cases w.params.followText "set-order"
    · exact .inr rfl
    · exact .inl rfl
  · rw [if_neg hc]
    exact wpAny_pure (hQ s.heap (Heap.SameBut.refl a s.heap) hi)

theorem add_all {o f : Addr} {ob : Obj} {es : Array (Int × Value)} {ep : Nat} {t : SetTable} (hd : ob.data = .set es ep t) (hf : t.fits es.size = true) (ne : o ≠ f) {each : Sem Unit}
    (heach : ∀ (s : Shared) (Q : Unit → Shared → Prop), s.heap.get? o = some ob → Q () s → wpAny (model P w) A each Q E s) :
    ∀ (l : List (Int × Value)) (s : Shared) (S : Int → Bool) (n : Nat) (f' : Int × Value → PUnit → Sem (ForInStep PUnit)) (Q : PUnit → Shared → Prop), s.heap.get? o = some ob → SetR w s.heap f S n → n + l.length < 64 → (∀ e ∈ l, GoodE e) →
    (∀ e u, GoodE e → f' e u = (do
      let _ ← holding [e.2] (setAddHashed f e.2 e.1)
      each
      if (← setState o).2.1 != ep then unsupported "set.changed-during-merge"
      pure (.yield PUnit.unit))) →
    (∀ h' S' n', Heap.SameBut f s.heap h' → SetR w h' f S' n' → (∀ k, S' k = true ↔ S k = true ∨ k ∈ l.map keyOf) → n' ≤ n + l.length → Q PUnit.unit { s with heap := h' }) → wpAny (model P w) A (forIn l PUnit.unit f') Q E s
  | [], s, S, n, f', Q, ho, R, hn, g, hf', q => by
    rw [List.forIn_nil]
    exact wpAny_pure (q s.heap S n (Heap.SameBut.refl f s.heap) R (fun k => by simp) (by simp))
  | e :: l, s, S, n, f', Q, ho, R, hn, g, hf', q => by
    rw [List.length_cons] at hn
    rw [List.forIn_cons, hf' e _ (g e List.mem_cons_self)]
    obtain ⟨k, tk, e1, e2⟩ := g e List.mem_cons_self
    refine wpAny_bind ?_
    rw [e1, e2]
    refine wpAny_bind (wpAny_holding (setR_add_hashed R (by unfold scanBound; omega) fun h' sb R' => ?_))
    have ho' : h'.get? o = some ob := (sb.2 o ne).trans ho
    refine wpAny_bind (heach _ _ ho' ?_)
    refine wpAny_bind (wpAny_setState_of (s := { s with heap := h' }) ho' hd hf ?_)
    refine wp_if_neg (by simp) ?_
    try refine wpAny_bind (wpAny_pure ?_)
    refine wpAny_pure ?_
    refine add_all hd hf ne heach l { s with heap := h' } _ _ f' Q ho' R' (by split <;> omega) (fun x hx => g x (List.mem_cons_of_mem _ hx)) hf' fun h2 S2 n2 sb2 R2 m2 z2 => ?_
    refine q h2 S2 n2 (sb.trans sb2) R2 (fun j => ?_) (by rw [List.length_cons]; split at z2 <;> omega)
    rw [m2 j, List.map_cons, List.mem_cons]
    have ek : keyOf e = k := by unfold keyOf; rw [e1]
    rw [ek, Bool.or_eq_true, decide_eq_true_eq, or_assoc]

theorem merge1 {o f : Addr} {k : Int} {S : Int → Bool} {n : Nat} (hF : Set1 w s.heap f k) (hS : SetR w s.heap o S n) (ne : o ≠ f) (hn : n ≤ 6) {each : Sem Unit}
    (heach : ∀ (ob : Obj) (s1 : Shared) (Q : Unit → Shared → Prop), s.heap.get? o = some ob → s1.heap.get? o = some ob → Q () s1 → wpAny (model P w) A each Q E s1) {Q : Unit → Shared → Prop}
    (hQ : ∀ h' d S' n', (∀ b u, b ≠ f → s.heap.get? b = some u → h'.get? b = some u) → SetR w h' f S' n' → (∀ j, S' j = true ↔ j = k ∨ S j = true) → n' ≤ 7 → Q () { s with heap := h', drawn := d }) :
    wpAny (model P w) A (setMerge f o each) Q E s := by
  have hfi := hF.i
  obtain ⟨ob, es, ep, t, ho, hex, hd, g, nd, hm, hb, hf, hz, hr, hl⟩ := id hS
  unfold setMerge
  refine wp_if_neg (by simpa using Ne.symm ne) ?_
  try refine wpAny_bind (wpAny_pure ?_)
  refine wpAny_bind (wpAny_setState_of ho hd hf ?_)
  dsimp only
  cases he : es.isEmpty with
  | true =>
    refine wp_if_pos rfl ?_
    refine wpAny_pure ?_
    have e0 : es = #[] := Array.isEmpty_iff.mp he
    refine hQ s.heap s.drawn _ 1 (fun _ _ _ q => q) hF.setR (fun j => ?_) (by decide)
    rw [decide_eq_true_eq, hm j, e0]
    simp
  | false =>
    refine wp_if_neg Bool.false_ne_true ?_
    try refine wpAny_bind (wpAny_pure ?_)
    refine wpAny_bind (room1 hF (by rw [hz]; exact hn) fun h' sb hI => ?_)
    have ho' : h'.get? o = some ob := (sb.2 o ne).trans ho
    have hS' : SetR w h' o S n := hS.at fun u q => (sb.2 o ne).trans q
    have R1 := hI.setR
    obtain ⟨tk1, ep1, t1, e1, p1, p2, p3, p4⟩ := id hI
    have hf1 : t1.fits (#[(hashInt k, Value.int k tk1)] : Array (Int × Value)).size = true := by
      unfold SetTable.fits SetTable.fill
      rw [p1, p2]
      show ((1 : Nat) == 1 && decide (1 + 0 ≤ t1.mask)) = true
      simpa using p3
    refine wpAny_bind (wpAny_setState_of (s := { s with heap := h' }) e1 rfl hf1 ?_)
    dsimp only
    have er : t1.road t = .oneByOne := by
      unfold SetTable.road SetTable.fill
      rw [p1, p2]
      rfl
    rw [er]
    dsimp only
    refine wpAny_bind (walk_unseen (s := { s with heap := h' }) hS' R1 ne (by omega) fun h2 d l k2 R2 gl ml zl => ?_)
    have ho2 : h2.get? o = some ob := k2 o ob ne ho'
    have hl2 : l.toList.length = n := by rw [Array.length_toList]; exact zl
    rw [← Array.forIn_toList]
    refine wpAny_bind (add_all (P := P) (t := t) hd hf ne (fun s1 Q1 h1 q1 => heach ob s1 Q1 ho h1 q1) l.toList { s with heap := h2, drawn := d } _ 1 _ _ ho2 R2 (by omega) gl (fun e u _ => ?_) fun h3 S3 n3 sb3 R3 m3 z3 => ?_)
    · obtain ⟨x, y⟩ := e
      rfl
    · refine wpAny_pure (hQ h3 d S3 n3 (fun b u hb' q => (sb3.2 b hb').trans (k2 b u hb' ((sb.2 b hb').trans q))) R3 (fun j => ?_) (by omega))
      rw [m3 j, ← ml j, decide_eq_true_eq]

theorem entry_set_or : entryFor table "set.__or__" = some Builtin.«frozenset.__or__» :=
  entryFor_alias (id' := "frozenset.__or__") (by kernel_rfl) rfl (by decide +kernel) (by kernel_rfl)
theorem isAny_set {v : Value} {Q : Bool → Shared → Prop} (h : s.TypeIs v "set") (q : Q true s) : wpAny (model P w) A (Builtin.Frozenset.isAnySet v) Q E s := by
  unfold Builtin.Frozenset.isAnySet
  refine wpAny_bind (wpAny_isInstance h PySem.sub_set_self ?_)
  exact wpAny_pure q
theorem union_run {b : Addr} {k : Int} {S : Int → Bool} {n : Nat} (hF : Set1 w s.heap a k) (hS : SetR w s.heap b S n) (ne : a ≠ b) (hn : n ≤ 6) {Q : Value → Shared → Prop}
    (hQ : ∀ h' d S' n', (∀ b u, s.heap.get? b = some u → h'.get? b = some u) → SetR w h' s.heap.objs.size S' n' → (∀ j, S' j = true ↔ j = k ∨ S j = true) → n' ≤ 7 → Q (.ref s.heap.objs.size) { s with heap := h', drawn := d }) :
    wpAny (model P w) A (call (.builtin "set.__or__") [.ref a, .ref b]) Q E s := by
  have ta := set_type (sh := s) rfl hF.setR
  have tb := set_type (sh := s) rfl hS
  refine wpAny_call_entry F.slot_set_or ta entry_set_or ?_ (F.args_set_or_2 _ _)
  unfold Builtin.«frozenset.__or__»
  refine wpAny_bind (m := Builtin.Frozenset.slot1 "__or__" ⟨[.ref a, .ref b], []⟩) (wpAny_pure ?_)
  dsimp only
  refine wpAny_bind ?_
  refine wpAny_bind (isAny_set ta ?_)
  show wpAny _ _ (Builtin.Frozenset.isAnySet (.ref b)) _ _ _
  refine isAny_set tb ?_
  simp only [Bool.not_true, Bool.false_eq_true, if_false]
  refine wpAny_bind (m := Builtin.Frozenset.addrOf _) (wpAny_pure ?_)
  refine wpAny_bind ?_
  refine wpAny_bind (copy1 hF fun h1 k1 F1 => ?_)
  have nab : s.heap.objs.size ≠ b := Nat.ne_of_gt hS.lt
  have hS1 : SetR w h1 b S n := hS.at fun o q => k1 b o q
  refine wp_if_pos (by simpa using Ne.symm ne) ?_
  refine wpAny_bind (m := Builtin.Frozenset.addrOf _) (wpAny_pure ?_)
  refine wpAny_bind (wpAny_holding ?_)
  unfold Builtin.Frozenset.updateFrom
  refine wpAny_bind (isAny_set (s := { s with heap := h1 }) (set_type rfl hS1) ?_)
  simp only [↓reduceIte]
  refine wpAny_bind (m := Builtin.Frozenset.addrOf _) (wpAny_pure ?_)
  unfold Builtin.Frozenset.merge
  obtain ⟨ob, es, ep, t, ho, hex, hd, g, nd, hm, hb, hf, hz, hr, hl⟩ := id hS1
  refine wpAny_bind (wpAny_setEpoch_of (s := { s with heap := h1 }) ho hd hf ?_)
  refine merge1 (s := { s with heap := h1 }) F1 hS1 (Ne.symm nab) hn (fun ob1 s1 Q1 q1 q2 q3 => ?_) fun h2 d S2 n2 k2 R2 m2 z2 => ?_
  · have e1 : ob1 = ob := Option.some.inj (q1.symm.trans ho)
    subst e1
    unfold Builtin.Frozenset.unchanged
    refine wpAny_bind (wpAny_setEpoch_of q2 hd hf ?_)
    refine wp_if_neg (by simp) ?_
    exact wpAny_pure q3
  · refine wpAny_pure ?_
    refine wpAny_pure ⟨_, rfl, hQ h2 d S2 n2 (fun c u q => k2 c u (Nat.ne_of_lt (Heap.lt_size q)) (k1 c u q)) R2 m2 z2⟩
end
end J

set_option Elab.async false
set_option linter.all false
set_option maxRecDepth 100000
set_option maxHeartbeats 4000000
/-! JS2: {elt for a in b for c in d}, elt an int: one rule for the loop of either clause; {e} of an int, a union. -/
namespace J
open PySem PySem.Spec PyProof.Rows L2
/-- a walk by J from H0: F where it ends, B what a turn owes to its item, N what the turn is to reach -/
abbrev Goes (J : It) (H0 : Hp) (F : Hp → Prop) (B : (Hp → Prop) → V → Hp → Prop) : Prop :=
  ∃ W : Nat → Nat → Hp → Prop, (∃ m, W 0 m H0) ∧ ∀ i m H, W i m H → (J.stop i H ∧ F H) ∨ (J.go i H ∧ ∃ N : Hp → Prop, (∀ H', N H' → ∃ m', m' < m ∧ W (i + 1) m' H') ∧ ∀ x H', J.yld i H x H' → B N x H')

section
variable {Y : Cx}
/-- the loop of clause k, whatever its turn does behind the store (rest): what the slots knew at the start holds at each turn -/
theorem loop_goes (hc : Y.calm = true) (hx : Y.xe = fun _ _ => False) {elt tg : Expr} {cs : List Comprehension} {sc : Scope} {pe : Pos} {k : Nat} {p : Pos} {it : Addr} {acc : Value} {rest : Sem Fin} {fp : List Addr} {tn : Nat → Heap → Prop} {J : It} {g : TG} {vs : List Nat}
    (code : compTurn (.SetComp elt cs sc pe) k (.ref it) acc Y.env = standAt p >>= fun _ => pyNext (.ref it) >>= fun r => match r with
      | none => pure (.done .next)
      | some v => letOwnedTupleGo tg (.ref it) v >>= fun _ => assign tg Y.env v >>= fun _ => rest)
    (T : Turn Y.prog Y.w Y.K tg J fp it tn) (hg : PG Y tg g) {pins : List (Addr × Obj)} {σ : L2.St} {H : Hp} {s : Shared} {F : Hp → Prop} {B : (Hp → Prop) → L2.St → Hp → Prop} {R : Result → Shared → Prop}
    (I : Inv Y pins (wipe σ vs) H s) (st : tn 0 s.heap) (hf : ∀ b ∈ fp, FpOk Y pins H b)
    (h : Goes J H F fun N x H' => g x (wipe σ vs) H' fun σ2 H2 => wipe σ2 vs = wipe σ vs ∧ B N σ2 H2)
    (turn : ∀ (pl : List (Addr × Obj)) (σ2 : L2.St) (H2 : Hp) (s2 : Shared) (N : Hp → Prop), Inv Y (pins ++ pl) σ2 H2 s2 → wipe σ2 vs = wipe σ vs → B N σ2 H2 →
      wpAny (model Y.prog Y.w) Y.A rest (fun f s3 => f = .again (.compLoop (.SetComp elt cs sc pe) k (.ref it) acc Y.env) ∧ ∃ σ3 H3, Inv Y (pins ++ pl) σ3 H3 s3 ∧ (∀ (j : Nat) v, (wipe σ vs)[j]? = some (some v) → σ3[j]? = some (some v)) ∧ N H3) (fun _ _ => False) s2)
    (fin : ∀ H' s', Inv Y pins (wipe σ vs) H' s' → F H' → R (.ok .next) s') :
    codeAny (model Y.prog Y.w) Y.A (.compLoop (.SetComp elt cs sc pe) k (.ref it) acc Y.env) R s := by
  obtain ⟨W, ⟨m0, w0⟩, walk⟩ := h
  have free : ∀ {H' : Hp}, (∀ b ∈ fp, H' b = none) → ∀ b ∈ fp, FpOk Y pins H' b := fun z b hb => ⟨z b hb, (hf b hb).2⟩
  refine codeAny_loop rfl (fun n s' => ∃ i H', Inv Y pins (wipe σ vs) H' s' ∧ tn i s'.heap ∧ (∀ b ∈ fp, H' b = none) ∧ W i n H') (fun n s1 ⟨i, H1, I1, t1, z1, w1⟩ => ?_) m0 ⟨0, H, I, st, fun b hb => (hf b hb).1, w0⟩
  show wpAny _ Y.A (Sem.onRaise (compTurn (.SetComp elt cs sc pe) k (.ref it) acc Y.env) fun x => noteFrame x Y.env >>= fun _ => theTreesLotGoes x) _ _ s1
  rw [code]
  refine wpAny_noted ?_
  refine wpAny_bind (wpAny_standAt (wpAny_bind ?_))
  rcases walk i n H1 w1 with ⟨q, e⟩ | ⟨q, N, less, e⟩
  · refine thnF (T.done Y rfl rfl rfl hc i pins s1 _ H1 _ I1 (free z1) t1 q) fun r s2 ⟨er, I2⟩ => ?_
    rw [er]
    exact wpAny_pure (fin H1 s2 I2 e)
  · refine thnF (T.item Y rfl rfl rfl hc i pins s1 _ H1 _ I1 (free z1) t1 q) fun r s2 ⟨u, er, h2⟩ => ?_
    rw [er]
    refine wpAny_bind (thnF h2 fun _ s3 ⟨x, H3, I3, rx, y, t3, z3⟩ => wpAny_bind (wpAny_mono (hg.run _ s3 _ H3 x u _ (I3.pinned (free z3) (T.obj _ _ t3)) rx (e x H3 y)) (fun _ s4 ⟨σ4, H4, I4, e4, b4⟩ => ?_) fun _ _ z => ?_))
    · refine thnF (turn _ σ4 H4 s4 N I4 e4 b4) fun f s5 ⟨ef, σ5, H5, I5, k5, n5⟩ => ?_
      obtain ⟨m', lt, w'⟩ := less H5 n5
      have held : ∀ b ∈ fp, ∃ o, s3.heap.get? b = some o ∧ s5.heap.get? b = some o ∧ H5 b = none := fun b hb => by
        obtain ⟨o, eo, _⟩ := T.obj _ _ t3 b hb
        obtain ⟨p1, p2, _⟩ := I5.pin (b, o) (List.mem_append_right _ (List.mem_append_right _ (mem_pinsAt hb eo)))
        exact ⟨o, eo, p1, p2⟩
      rw [ef]
      refine ⟨rfl, m', lt, i + 1, H5, I5.unpinned.weak (I1.len.trans I5.len.symm) k5, T.keep _ _ _ t3 fun b hb o eo => ?_, fun b hb => ?_, w'⟩
      · obtain ⟨o', e1, e2, _⟩ := held b hb
        rw [e1] at eo
        rw [← eo]
        exact e2
      · obtain ⟨_, _, _, e3⟩ := held b hb
        exact e3
    · rw [hx] at z
      exact z.elim
end
section
variable {prog : Program} {w : World} {A : Around} {R : Result → Shared → Prop} {s : Shared}
/-- a clause's loop is begun: its iterator gives itself -/
theorem start_goes {elt t i : Expr} {fs : List Expr} {cs : List Comprehension} {sc : Scope} {pe : Pos} {k : Nat} {it : Addr} {acc : Value} {env : Env} (hk : cs[k]? = some ⟨t, i, fs, 0⟩)
    (own : ∀ (E Q : Value → Shared → Prop), Q (.ref it) s → wpAny (model prog w) A (pyIter (.ref it)) Q E s)
    (h : codeAny (model prog w) A (.compLoop (.SetComp elt cs sc pe) k (.ref it) acc env) R s) : codeAny (model prog w) A (.compStart (.SetComp elt cs sc pe) k (.ref it) acc env) R s := by
  refine codeAny_of_tree ?_
  show wpAny _ A (Sem.onRaise (compStart (.SetComp elt cs sc pe) k (.ref it) acc env) fun x => noteFrame x env >>= fun _ => standAt theWindowsPlace) _ _ s
  refine wpAny_notedAt ?_
  unfold compStart
  rw [show clausesOf (.SetComp elt cs sc pe) = cs from rfl, hk]
  show wpAny _ A (ask >>= _) _ _ s
  refine wpAny_bind (wpAny_askSetting ?_)
  by_cases hb : w.params.followText "comprehension-iter-twice" = true
  · exact wp_if_pos hb (wpAny_pure ⟨rfl, h⟩)
  · refine wp_if_neg hb (wpAny_bind (wpAny_rule ?_))
    show wpAny _ A (standAt i.pos >>= _) _ _ s
    exact wpAny_bind (wpAny_standAt (wpAny_bind (own _ _ (wpAny_pure ⟨rfl, h⟩))))
end
section
variable {t0 i0 t1 i1 elt : Expr} {sc : Scope} {pe : Pos} {it acc : Value} {env : Env}
abbrev two (t0 i0 t1 i1 : Expr) : List Comprehension := [⟨t0, i0, [], 0⟩, ⟨t1, i1, [], 0⟩]
theorem turn_first : compTurn (.SetComp elt (two t0 i0 t1 i1) sc pe) 0 it acc env = standAt i0.pos >>= fun _ => pyNext it >>= fun r => match r with
    | none => pure (.done .next)
    | some v => letOwnedTupleGo t0 it v >>= fun _ => assign t0 env v >>= fun _ => eval i1 env >>= fun x => standAt i1.pos >>= fun _ => foldedSetIterable i1 env x >>= fun x => holding [x] (pyIter x) >>= fun j =>
      runOwn (.compStart (.SetComp elt (two t0 i0 t1 i1) sc pe) 1 j acc env) env >>= fun _ => again (.compLoop (.SetComp elt (two t0 i0 t1 i1) sc pe) 0 it acc env) := rfl
theorem turn_last : compTurn (.SetComp elt (two t0 i0 t1 i1) sc pe) 1 it acc env = standAt i1.pos >>= fun _ => pyNext it >>= fun r => match r with
    | none => pure (.done .next)
    | some v => letOwnedTupleGo t1 it v >>= fun _ => assign t1 env v >>= fun _ => (eval elt env >>= fun v => standAt elt.pos >>= fun _ => call (.builtin "set.add") [acc, v] >>= fun _ => pure PUnit.unit) >>= fun _ => again (.compLoop (.SetComp elt (two t0 i0 t1 i1) sc pe) 1 it acc env) := rfl
end
section
variable {X : Cx}
/-- set.add of an int -/
theorem addI_ok {pins : List (Addr × Obj)} {σ : L2.St} {H : Hp} {s : Shared} {E : Value → Shared → Prop} {D : Addr} {S : Int → Bool} {n : Nat} {y : Int} {tk : Tok} {Q : Value → Shared → Prop} (I : Inv X pins σ H s) (hD : H D = some (SetO X.w D S n)) (room : n + 1 < scanBound)
    (h : ∀ s', Inv X pins σ (upd H D (SetO X.w D (fun j => S j || decide (j = y)) (if S y = true then n else n + 1))) s' → Q .none s') : wpAny (model X.prog X.w) X.A (call (.builtin "set.add") [.ref D, .int y tk]) Q E s :=
  setR_add (setO_get I hD) room fun _ sb new => h _ (I.write (e := D) (t' := s.toks + 1) (by rw [hD]; trivial) (.inl rfl) (fun b _ hb hu => (sb.2 b hb).trans hu) (let ⟨o, _, _, _, ho, _⟩ := new; ⟨o, ho⟩) (setO_new new))

/-- {elt for tg in iter for tg1 in iter1}, elt an int: D the set. vs: the block's names; vs1: those of the second target -/
def tSc2 (w : World) (wi : TI) (g : TG) (wi1 : TI) (g1 : TG) (te : TE) (vs vs1 : List Nat) : TE := fun σ H Q => wi σ H fun J H1 => ∀ D, H1 D = none →
  Goes J (upd H1 D (SetO w D (fun _ => false) 0)) (Q (.ref D)) fun N x H2 => g x (wipe σ vs) H2 fun σ3 H3 => wipe σ3 vs = wipe σ vs ∧ wi1 σ3 H3 fun J1 H4 =>
    Goes J1 H4 N fun N1 y H5 => g1 y (wipe σ3 vs1) H5 fun σ6 H6 => wipe σ6 vs1 = wipe σ3 vs1 ∧ te σ6 H6 fun v H7 =>
      ∃ (c : Int) (S : Int → Bool) (n : Nat), v = .int c ∧ H7 D = some (SetO w D S n) ∧ n + 1 < scanBound ∧ N1 (upd H7 D (SetO w D (fun j => S j || decide (j = c)) (if S c = true then n else n + 1)))

/-- the two loops, in the block's own context -/
theorem sc2_loops {Y : Cx} (hc : Y.calm = true) (hx : Y.xe = fun _ _ => False) {elt tg iter tg1 iter1 : Expr} {sc : Scope} {pe : Pos} {vs vs1 : List Nat} {wi1 : TI} {g g1 : TG} {te : TE} (hv : ∀ i ∈ vs1, i ∈ vs)
    (hg : PG Y tg g) (hi1 : PI Y tg1 iter1 wi1) (hg1 : PG Y tg1 g1) (he : PE Y elt te) (hs1 : ∀ x, foldedSetIterable iter1 Y.env x = pure x)
    {it D : Addr} {fp : List Addr} {tn : Nat → Heap → Prop} {J : It} (T : Turn Y.prog Y.w Y.K tg J fp it tn) {σ : L2.St} {H : Hp} {s : Shared} {F : Hp → Prop} {R : Result → Shared → Prop}
    (I : Inv Y [] (wipe σ vs) H s) (st : tn 0 s.heap) (hf : ∀ b ∈ fp, FpOk Y [] H b)
    (h : Goes J H F fun N x H2 => g x (wipe σ vs) H2 fun σ3 H3 => wipe σ3 vs = wipe σ vs ∧ wi1 σ3 H3 fun J1 H4 => Goes J1 H4 N fun N1 y H5 => g1 y (wipe σ3 vs1) H5 fun σ6 H6 => wipe σ6 vs1 = wipe σ3 vs1 ∧ te σ6 H6 fun v H7 =>
      ∃ (c : Int) (S : Int → Bool) (n : Nat), v = .int c ∧ H7 D = some (SetO Y.w D S n) ∧ n + 1 < scanBound ∧ N1 (upd H7 D (SetO Y.w D (fun j => S j || decide (j = c)) (if S c = true then n else n + 1))))
    (fin : ∀ H' s', Inv Y [] (wipe σ vs) H' s' → F H' → R (.ok .next) s') :
    codeAny (model Y.prog Y.w) Y.A (.compStart (.SetComp elt (two tg iter tg1 iter1) sc pe) 0 (.ref it) (.ref D) Y.env) R s := by
  refine start_goes rfl (fun E Q q => T.self Y.A 0 s Q E st q) ?_
  refine loop_goes hc hx turn_first T hg I st hf h (fun pl σ2 H2 s2 N I2 e2 b2 => ?_) fin
  have none_err : ∀ {Q : Prop} (v : Value) (s : Shared), Y.xe v s → Q := fun v s z => by
    rw [hx] at z
    exact z.elim
  refine wpAny_bind (wpAny_mono (hi1.run _ s2 σ2 H2 _ I2 b2) (fun x s3 k3 => ?_) fun v s z => none_err v s z)
  refine wpAny_bind (wpAny_standAt (wpAny_bind (wpAny_of_eq (hs1 x) (wpAny_bind (wpAny_holding (wpAny_mono k3 (fun _ s4 ⟨it1, fp1, tn1, J1, H4, e, I4, T1, t4, f4, go⟩ => ?_) fun v s z => none_err v s z))))))
  subst e
  refine wpAny_bind (wpAny_runOwn ?_)
  rw [Around.mark_none]
  -- what the block knew at its start is known to the end of the second loop
  have known : ∀ (j : Nat) v, (wipe σ vs)[j]? = some (some v) → (wipe σ2 vs1)[j]? = some (some v) := fun j v e => by
    rw [← e2] at e
    obtain ⟨a, b⟩ := wipe_some e
    rw [wipe_out fun z => b (hv j z)]
    exact a
  refine start_goes rfl (fun E Q q => T1.self Y.A 0 s4 Q E t4 q) ?_
  refine loop_goes (σ := σ2) (vs := vs1) hc hx turn_last T1 hg1 (I4.weak (wipe_length _ _) fun j v e => (wipe_some e).1) t4 f4 go (fun pl1 σ6 H6 s6 N1 I6 e6 b6 => ?_)
    fun H' s' I' n' => wpAny_pure ⟨rfl, wipe σ2 vs1, H', I', known, n'⟩
  refine wpAny_bind (wpAny_bind (wpAny_mono (he.run _ s6 σ6 H6 _ I6 b6) (fun x s7 ⟨v, H7, I7, rx, c, S, n, ev, hD, room, n1⟩ => wpAny_bind (wpAny_standAt (wpAny_bind ?_))) fun v s z => none_err v s z))
  subst ev
  obtain ⟨tk, rfl⟩ := rx
  exact addI_ok I7 hD room fun s8 I8 => wpAny_pure (wpAny_pure ⟨rfl, σ6, _, I8, fun j v e => by rw [← e6] at e; exact (wipe_some e).1, n1⟩)
end
section
variable {X : Cx}
theorem pe_sc2 {elt tg iter tg1 iter1 : Expr} {scope : Scope} {own : List (Str × Nat)} {vs1 : List Nat} {pos : Pos} {wi wi1 : TI} {g g1 : TG} {te : TE} (hc : X.calm = true) (hN : X.N.Nodup) (hi : PI X tg iter wi) (ok : BlkOk X.N X.env.scope scope own) (hv : ∀ i ∈ vs1, i ∈ own.map (·.2))
    (hg : ∀ s H C cl fp, PG (X.blk s H scope (compEnvC scope cl C X.env) fp) tg g) (hi1 : ∀ s H C cl fp, PI (X.blk s H scope (compEnvC scope cl C X.env) fp) tg1 iter1 wi1)
    (hg1 : ∀ s H C cl fp, PG (X.blk s H scope (compEnvC scope cl C X.env) fp) tg1 g1) (he : ∀ s H C cl fp, PE (X.blk s H scope (compEnvC scope cl C X.env) fp) elt te)
    (hs : ∀ x, foldedSetIterable iter X.env x = pure x := by intro _; rfl) (hs1 : ∀ env x, foldedSetIterable iter1 env x = pure x := by intro _ _; rfl) :
    PE X (.SetComp elt (two tg iter tg1 iter1) scope pos) (tSc2 X.w wi g wi1 g1 te (own.map (·.2)) vs1) := by
  refine ⟨fun pins s σ H Q I h => ?_⟩
  rw [PpSet.eval_SetComp]
  refine wpAny_comprehension_free (use := none) rfl hs (closure_ok fun y hy e => (ok.free y hy e).elim (fun z => I.ok.has _ (.inl z)) fun z => I.ok.has _ (.inr z)) ok.kind (fun y hy e => (ok.uniq y hy).trans (congrArg some e))
    (thn (hi.run pins s σ H _ I h) fun _ s1 b1 => thn b1 fun _ s2 ⟨it, fp, tn, J, H2, ei, I2, T, t2, f2, go⟩ => ?_)
  rw [ei]
  have new : H2 s2.heap.objs.size = none := I2.hok.fresh (Nat.le_refl _)
  refine PpSet.newSet_ok (newEnv_comp ?_)
  have go := go _ new
  -- the set is laid: of the heap behind it only this is used
  obtain ⟨s3, H3, e3, eH, keep, more⟩ : ∃ s3 H3, s3 = ({ s2 with heap := s2.heap.push { cls := .type "set", dict := none, data := .set #[] 0 (.fresh 0 0 (!X.w.params.followText "set-order")) } } : Shared) ∧
      H3 = upd H2 s2.heap.objs.size (SetO X.w s2.heap.objs.size (fun _ => false) 0) ∧ (∀ b o, s2.heap.get? b = some o → s3.heap.get? b = some o) ∧ s3.heap.objs.size = s2.heap.objs.size + 1 :=
    ⟨_, _, rfl, rfl, fun _ _ => Heap.get?_push_of_some _, Heap.size_push ..⟩
  have I3 : Inv X pins σ H3 s3 := by
    rw [e3, eH]
    exact I2.laid (t' := s2.toks) (fun _ _ => Heap.get?_push_of_some _) (Nat.le_refl _) (setO_new (setR_fresh X.w))
  rw [← e3]
  rw [← eH] at go
  have f3 : ∀ b ∈ fp, FpOk X pins H3 b ∧ b < s3.heap.objs.size := fun b hb => by
    obtain ⟨o, eo, _⟩ := T.obj _ _ t2 b hb
    have lt := Heap.lt_size eo
    refine ⟨⟨?_, (f2 b hb).2⟩, by rw [more]; exact Nat.lt_succ_of_lt lt⟩
    rw [eH, upd_ne (Nat.ne_of_lt lt)]
    exact (f2 b hb).1
  have I4 := block_start I3 ok hN f3
  generalize s2.heap.objs.size = D at go ⊢
  refine sc2_loops (Y := X.blk s3 H3 scope (compEnvC scope _ _ X.env) fp) hc rfl hv (hg ..) (hi1 ..) (hg1 ..) (he ..) (hs1 _) T I4 (T.keep _ _ _ t2 fun b _ o eo => pushCells_keeps _ _ _ _ (Heap.get?_push_of_some _ (keep b o eo)))
    (fun b hb => ⟨(f3 b hb).1.1, (I4.ok.exf b hb).1, I4.ok.exfs b hb, .inl hb, fun x c e => (I4.ok.exf b hb).2 x c e, fun p hp => nomatch hp⟩) go fun H' s' I' q => ?_
  -- back in the def: the block's frame is nobody's
  have I5 : Inv X pins σ H' s' := I3.call' (ch := fp) I'.os I'.base I'.hok I'.bare fun b hb => let f := (f3 b hb).1.2; ⟨f.2.2.1, f.1, f.2.2.2.1, f.2.2.2.2⟩
  obtain ⟨m, hm, _⟩ := I'.loc
  refine ⟨m, hm, fun h' sb => ⟨.ref D, H', I5.turnedL (t' := s'.toks) (ch := [s3.heap.objs.size]) (fun b o hb e => (sb.2 b fun z => hb (by rw [z]; exact List.mem_cons_self)).trans e) fun b hb => ?_, rfl, q⟩⟩
  rw [List.mem_singleton.mp hb]
  exact I3.fpOk (Nat.le_refl _) I'.free
end

/-! {e} of an int -/
def Set0O (w : World) (a : Addr) : HO := .ext fun h => h.get? a = some { cls := .type "set", dict := none, data := .set #[] 0 (.fresh 0 0 (!w.params.followText "set-order")) }
def Set1O (w : World) (a : Addr) (k : Int) : HO := .ext fun h => Set1 w h a k
section
variable {X : Cx}
theorem set1O_new {w : World} {P : Program} {H : Hp} {h : Heap} {a : Addr} {k : Int} (R : Set1 w h a k) : ObjOk P w H h a (Set1O w a k) := by
  obtain ⟨tk, ep, e⟩ := id R
  exact ⟨R, ⟨_, e⟩, fun h1 h2 p kk => set1_other p kk⟩
def tSet1 (w : World) (te : TE) : TE := fun σ H Q => ∀ a, H a = none → te σ (upd H a (Set0O w a)) fun v H1 => ∃ k, v = .int k ∧ H1 a = some (Set0O w a) ∧ Q (.ref a) (upd H1 a (Set1O w a k))
theorem pe_set1 {e : Expr} {te : TE} {pos : Pos} (he : PE X e te) (hcd : PySem.W.kdsCode X.K X.env.code = true) (hp : PySem.W.kdsPlain e = true := by rfl) : PE X (.Set [e] 0 pos) (tSet1 X.w te) := by
  refine ⟨fun pins s σ H Q I h => ?_⟩
  rw [arm_eval_Set]
  refine wpAny_bind (wpAny_standAt ?_)
  refine wpAny_bind (PySem.W.kds_main I.kIn hcd fun b => ?_)
  rw [PySem.W.kds_star [e] (by simp [hp]), List.map_map]
  unfold setDisplay
  refine wp_if_neg (show ¬ ((displayRoad 0 [e] == .constants) = true) by rw [road0]; exact Bool.false_ne_true) ?_
  try refine wpAny_bind (wpAny_pure ?_)
  refine wpAny_bind (PpSet.newSet_ok ?_)
  have fr : H s.heap.objs.size = none := I.hok.fresh (Nat.le_refl _)
  have I1 : Inv X pins σ (upd H s.heap.objs.size (Set0O X.w s.heap.objs.size)) { s with heap := s.heap.push { cls := .type "set", dict := none, data := .set #[] 0 (.fresh 0 0 (!X.w.params.followText "set-order")) } } :=
    I.laid (t' := s.toks) (fun b u q => Heap.get?_push_of_some _ q) (Nat.le_refl _) ⟨Heap.get?_push_size _ rfl, ⟨_, Heap.get?_push_size _ rfl⟩, fun h1 h2 p k => k _ p⟩
  have q0 := h _ fr
  generalize hs1 : ({ s with heap := s.heap.push { cls := .type "set", dict := none, data := .set #[] 0 (.fresh 0 0 (!X.w.params.followText "set-order")) } } : Shared) = s1 at I1 ⊢
  generalize s.heap.objs.size = a at q0 I1 ⊢
  dsimp only
  refine wpAny_bind (wpAny_holding ?_)
  show wpAny _ _ (evalAll ((evalEach [e] X.env).map fun t => do let v ← t; standAt pos; pure v) >>= _) _ _ _
  refine wpAny_bind (PySem.W.kds_all pos [e] s1 _ ?_)
  refine thn (he.run pins s1 σ _ _ I1 q0) fun v s2 ⟨x, H2, I2, r2, k, ex, h2, q2⟩ => ?_
  subst ex
  obtain ⟨tk, rfl⟩ := r2
  have R0 : s2.heap.get? a = some { cls := .type "set", dict := none, data := .set #[] 0 (.fresh 0 0 (!X.w.params.followText "set-order")) } := (I2.hok a _ h2).1
  show wpAny _ _ (holding [.int k tk] _ >>= _) _ _ _
  refine wpAny_bind (wpAny_holding ?_)
  rw [List.forIn_cons]
  refine wpAny_bind (wpAny_bind ?_)
  unfold setAdd
  refine wpAny_bind ?_
  refine wpAny_holding (wpAny_bind ((intKind X.prog X.w).pyHash (intKind_is _ _ k tk) ?_))
  refine set1_add (s := { s2 with toks := s2.toks + 1 }) R0 fun h' sb R => ?_
  refine wpAny_pure ?_
  dsimp only
  rw [List.forIn_nil]
  refine wpAny_pure ?_
  refine wp_if_neg (show ¬ ((displayRoad 0 [e] == .unsure) = true) from Bool.false_ne_true) ?_
  refine wpAny_pure ?_
  have ed : ∀ l : List (Bool × Sem Value), l.length = 1 → (∀ x ∈ l, x.1 = false) → l.drop (if l.length > 30 then 0 else (l.findIdx? (·.1)).getD l.length) = [] := fun l h1 h2 => by
    have e0 : l.findIdx? (·.1) = none := List.findIdx?_eq_none_iff.mpr fun x hx => h2 x hx
    rw [e0, if_neg (by omega)]
    exact List.drop_eq_nil_of_le (Nat.le_refl _)
  rw [ed _ (by rw [List.length_map, PySem.W.kds_len]; rfl) (fun x hx => by
    obtain ⟨t, _, rfl⟩ := List.mem_map.mp hx
    rfl), List.forIn_nil]
  refine wpAny_pure (wpAny_pure ?_)
  exact ⟨.ref a, _, I2.write (e := a) (t' := s2.toks + 1) (by rw [h2]; trivial) (.inl rfl) (fun b u hb hu => (sb.2 b hb).trans hu) (let ⟨tk', ep', e'⟩ := R; ⟨_, e'⟩) (set1O_new R), rfl, q2⟩
/-- {x} | (a set of few ints) -/
def rOrI (w : World) : R2 := fun x y H Q => ∃ a b k S n, x = .ref a ∧ y = .ref b ∧ a ≠ b ∧ H a = some (Set1O w a k) ∧ H b = some (SetO w b S n) ∧ n ≤ 6 ∧
  ∀ p S' n', H p = none → (∀ j, S' j = true ↔ j = k ∨ S j = true) → n' ≤ 7 → Q (.ref p) (upd H p (SetO w p S' n'))
theorem op_orI : OpR X (binaryOp .BitOr) (rOrI X.w) := by
  intro pins s σ H x y v u Q I rx ry h
  obtain ⟨a, b, k, S, n, rfl, rfl, ne, ha, hb, hn, q⟩ := h
  cases rx
  cases ry
  have R1 : Set1 X.w s.heap a k := (I.hok a _ ha).1
  have R2 := setO_get I hb
  refine wpAny_binaryOp_same (set_type rfl R1.setR) (set_type rfl R2) F.fills_set_or F.slot_set_or (union_run R1 R2 ne hn fun h' d S' n' kk R m z => ⟨by simp, ?_⟩)
  have fr : H s.heap.objs.size = none := I.hok.fresh (Nat.le_refl _)
  exact ⟨.ref s.heap.objs.size, upd H s.heap.objs.size (SetO X.w s.heap.objs.size S' n'), I.call (ch := []) (g' := s.gens) (t' := s.toks) (Un.laid kk (Nat.le_refl _) fr) (I.hok.laid kk (Nat.le_refl _) (setO_new R)) I.bare (fun _ zz => nomatch zz), rfl, q _ S' n' fr m z⟩
end
end J

set_option Elab.async false
set_option linter.all false
set_option maxRecDepth 100000
set_option maxHeartbeats 4000000
/-! JS3: set(a list of ints), set(a tuple of ints). -/
namespace J
open PySem PySem.Spec PyProof.Rows L2
/-- a set as it is made -/
abbrev bareS (w : World) : Obj := { cls := .type "set", dict := none, data := .set #[] 0 (.fresh 0 0 (!w.params.followText "set-order")) }
section
variable {P : Program} {w : World} {A : Around} {E : Value → Shared → Prop} {s : Shared}
/-- set(v), all but what __init__ does with v -/
theorem set_made {v : Value} {Q : Value → Shared → Prop}
    (h : codeAny (model P w) A.in1 (.call (.builtin "set.__init__") ⟨[.ref s.heap.objs.size, v], []⟩) (wants (fun r s2 => r = .none ∧ Q (.ref s.heap.objs.size) s2) E) { s with heap := s.heap.push (bareS w) }) :
    wpAny (model P w) A (call (.type "set") [v]) Q E s := by
  have C := F.called_set
  have ⟨_, _, m⟩ := C.mro
  have m1 := C.made
  have m2 := C.sub
  have m3 := C.notType
  have m4 := C.canCreate
  have m5 := F.typeCall_set_1 v
  refine wpAny_call (codeAny_of_tree (wpAny_pure ⟨Code.quiet_builtin _ (by decide +kernel), codeAny_builtin F.entry_type_call ?_⟩))
  rw [Around.under_plain (weight_type_call_type "set" [v] []) rfl]
  repeat any_goals (first | assumption | wp_step)
  refine codeAny_mono (code_set_led1 v (E := E) (Q₁ := fun o s1 => o = .ref s.heap.objs.size ∧ s1 = { s with heap := s.heap.push (bareS w) }) ⟨rfl, rfl⟩) fun r s1 hr => ?_
  match r, hr with
  | .error _, hr => exact hr
  | .ok .next, hr => exact hr.elim
  | .ok .brk, hr => exact hr.elim
  | .ok .cont, hr => exact hr.elim
  | .ok (.ret o), ⟨e1, e2⟩ =>
    subst e1 e2
    have hT : Shared.TypeIs { s with heap := s.heap.push (bareS w) } (.ref s.heap.objs.size) "set" := ⟨_, Heap.get?_push_size _ rfl, rfl⟩
    have m6 := C.init.lookup
    have m7 := C.init.bind (.ref s.heap.objs.size)
    repeat any_goals (first | assumption | wp_step)
    refine codeAny_mono h fun r s2 hr => ?_
    match r, hr with
    | .error _, hr => exact hr
    | .ok .next, hr => exact hr.elim
    | .ok .brk, hr => exact hr.elim
    | .ok .cont, hr => exact hr.elim
    | .ok (.ret o), ⟨e, q⟩ =>
      subst e
      repeat any_goals (first | assumption | wp_step)
/-- __init__ of a bare set by a list of ints -/
theorem init_list {D l : Addr} {items : Array Value} (ns : List Int) {K : Shared → Prop} (hh : A.handled = none) (hD : s.heap.get? D = some (bareS w)) (hl : s.heap.IsList l items) (hi : IntsAre items.toList ns) (hb : ns.length + 1 < scanBound)
    (k : ∀ (h' : Heap) (tk c : Nat), SetR w h' D (fun j => decide (j ∈ ns)) c → c ≤ ns.length → (∀ b o, b ≠ D → s.heap.get? b = some o → h'.get? b = some o) → K { s with heap := h', toks := tk }) :
    codeAny (model P w) A (.call (.builtin "set.__init__") ⟨[.ref D, .ref l], []⟩) (wants (fun r s2 => r = .none ∧ K s2) E) s := by
  have hT : s.TypeIs (.ref D) "set" := ⟨_, hD, rfl⟩
  have nD : l ≠ D := fun e => by
    obtain ⟨o, ho, hc, _⟩ := hl
    rw [e, hD] at ho
    cases ho
    exact absurd (show Value.type "set" = Value.type "list" from hc) (by decide)
  have sz : items.size = ns.length := (Array.length_toList (xs := items)).symm.trans (IntsAre.length hi)
  have lt : l < s.heap.objs.size := let ⟨_, ho, _⟩ := hl; Heap.lt_size ho
  refine codeAny_call_builtin F.called_set.init.plain F.entry_set_init (check_set_init_1 hT ?_)
  have sub1 := F.sub_list_set
  have sub2 := F.sub_list_frozenset
  have noD : (Value.type "list" == Value.type "dict") = false := by decide
  have hl1 := hl
  obtain ⟨⟨c, dc, dt, sl⟩, ho, hc, kk, hd⟩ := hl
  have hc : c = .type "list" := hc
  have hd : dt = .seq items kk := hd
  subst hc hd
  unfold Builtin.«set.__init__» noKeywords Builtin.Frozenset.updateFrom
  generalize hPI : pyIter = PI
  wp_walk
  subst hPI
  refine wpAny_pyIter_list hl1 (wpAny_bind (wpAny_runValue ?_))
  refine set_update_ints ((Walks.list (A := A.in1.in1) hh _ l (Nat.ne_of_lt lt) items).toS) D (fun hm => ?_) ns sz hb (fun i v hv => ?_) _ 0 _ rfl (Nat.zero_le _) ⟨⟨_, Heap.get?_push_size _ rfl, rfl, rfl⟩, hl1.push _⟩
    ⟨0, Nat.le_refl 0, setR_new_at (Heap.get?_push_of_some _ hD)⟩ fun s' n hm hn hS => ?_
  · rcases List.mem_cons.mp hm with e | e
    · exact absurd (Heap.lt_size hD) (by rw [e]; exact Nat.lt_irrefl _)
    · exact nD (List.mem_singleton.mp e).symm
  · obtain ⟨t, e⟩ := IntsAre.int_at hi i v (by rw [Array.getElem?_toList]; exact hv)
    have hlt : i < ns.length := by rw [← sz]; exact (Array.getElem?_eq_some_iff.mp hv).1
    rw [List.getD_eq_getElem?_getD, List.getElem?_eq_getElem hlt] at e
    exact ⟨_, t, List.getElem?_eq_getElem hlt, e⟩
  · have es : s' = { s with heap := s'.heap, toks := s'.toks } := by
      obtain ⟨h', g, d, t, o⟩ := s'
      have e1 : g = s.gens := hm.gens
      have e2 : d = s.drawn := hm.drawn
      have e3 : o = s.os := hm.os
      rw [e1, e2, e3]
    rw [es]
    refine wpAny_pure (wpAny_pure ⟨rfl, k _ _ n hS (by rw [← sz]; exact hn) fun b o nb e => hm.heap b o (fun z => ?_) (Heap.get?_push_of_some _ e)⟩)
    rcases List.mem_cons.mp z with z | z
    · exact nb z
    · exact absurd (Heap.lt_size e) (by rw [List.mem_singleton.mp z]; exact Nat.lt_irrefl _)
theorem call_set_lstI {l : Addr} {items : Array Value} (ns : List Int) {Q : Value → Shared → Prop} (hh : A.handled = none) (hl : s.heap.IsList l items) (hit : IntsAre items.toList ns) (hb : ns.length + 1 < scanBound)
    (h : ∀ (h' : Heap) (tk c : Nat), SetR w h' s.heap.objs.size (fun j => decide (j ∈ ns)) c → c ≤ ns.length → (∀ b o, s.heap.get? b = some o → h'.get? b = some o) → Q (.ref s.heap.objs.size) { s with heap := h', toks := tk }) :
    wpAny (model P w) A (call (.type "set") [.ref l]) Q E s :=
  set_made (init_list (K := Q (.ref s.heap.objs.size)) ns hh (Heap.get?_push_size _ rfl) (hl.push _) hit hb fun h' tk c R hc k => h h' tk c R hc fun b o e => k b o (Nat.ne_of_lt (Heap.lt_size e)) (Heap.get?_push_of_some _ e))
end
section
variable {X : Cx}
/-- set(x), x a list or a tuple of ints -/
def rSetI (K : PySem.W.Frag) (w : World) : List V → Hp → VK → Prop := fun xs H Q => ∃ (t : Bool) (p : Addr) (ns : List Int), xs = [.ref p] ∧ SqB K H t p (ns.map V.int) ∧ ns.length ≤ 4000 ∧
  ∀ q S n, H q = none → (∀ k, S k = true ↔ k ∈ ns) → n ≤ ns.length → Q (.ref q) (upd H q (SetO w q S n))
theorem call_setI (hc : X.calm = true) : CallR X (.type "set") (rSetI X.K X.w) := by
  intro pins s σ H xs us Q I r h
  obtain ⟨t, p, ns, rfl, hp, hn, q⟩ := h
  rw [Vals.ref1 r]
  obtain ⟨its, rv, hs, hz⟩ := sq_get I hp
  have hit : IntsAre its.toArray.toList ns := ints_of_vals rv
  have fin : ∀ (h' : Heap) (tk c : Nat), SetR X.w h' s.heap.objs.size (fun j => decide (j ∈ ns)) c → c ≤ ns.length → (∀ b o, s.heap.get? b = some o → h'.get? b = some o) → EP X pins σ Q (.ref s.heap.objs.size) { s with heap := h', toks := tk } := fun h' tk c R hc k =>
    ⟨.ref s.heap.objs.size, _, I.laid (t' := tk) k (Nat.le_refl _) (setO_new R), rfl, q _ _ c (I.hok.fresh (Nat.le_refl _)) (fun k => by simp) hc⟩
  cases t with
  | true => exact call_set_tupI ns (I.ok.hd hc) hs hit (by unfold scanBound; omega) fin
  | false => exact call_set_lstI ns (I.ok.hd hc) hs hit (by unfold scanBound; omega) fin
end
end J

set_option Elab.async false
set_option linter.all false
set_option maxRecDepth 100000
set_option maxHeartbeats 4000000
/-! JM1: parts as data, their order, their one sorted list. -/
namespace J
open PySem PySem.W PyProof.Rows

abbrev Part := List (List Nat)
def encB (b : List Nat) : PyData := .tuple (b.map fun n : Nat => .int (n : Int))
def encP (P : Part) : PyData := .tuple (P.map encB)

theorem eqv_ints : ∀ a b : List Nat, PyData.eqvAll (a.map fun n : Nat => PyData.int (n : Int)) (b.map fun n : Nat => PyData.int (n : Int)) = decide (a = b)
  | [], [] => rfl
  | [], _ :: _ => by simp [PyData.eqvAll]
  | _ :: _, [] => by simp [PyData.eqvAll]
  | x :: a, y :: b => by
    have ih := eqv_ints a b
    simp only [List.map_cons, PyData.eqvAll, PyData.eqv, ih]
    by_cases h : x = y
    · subst h
      simp
    · have h2 : ((x : Int) == (y : Int)) = false := beq_eq_false_iff_ne.mpr (by omega)
      rw [h2]
      simp [h]
theorem eqv_encB (a b : List Nat) : PyData.eqv (encB a) (encB b) = decide (a = b) := by
  unfold encB
  rw [PyData.eqv]
  exact eqv_ints a b
theorem eqv_encBs : ∀ P Q : Part, PyData.eqvAll (P.map encB) (Q.map encB) = decide (P = Q)
  | [], [] => rfl
  | [], _ :: _ => by simp [PyData.eqvAll]
  | _ :: _, [] => by simp [PyData.eqvAll]
  | x :: a, y :: b => by
    have ih := eqv_encBs a b
    simp only [List.map_cons, PyData.eqvAll, eqv_encB, ih]
    by_cases h : x = y
    · subst h
      simp
    · simp [h]
theorem eqv_encP (P Q : Part) : PyData.eqv (encP P) (encP Q) = decide (P = Q) := by
  unfold encP
  rw [PyData.eqv]
  exact eqv_encBs P Q
theorem alike_intsN : ∀ a b : List Nat, alikeAll (a.map fun n : Nat => PyData.int (n : Int)) (b.map fun n : Nat => PyData.int (n : Int)) = true
  | [], _ => by simp [alikeAll]
  | _ :: _, [] => by simp [alikeAll]
  | x :: a, y :: b => by
    simp only [List.map_cons, alikeAll, alike, alike_intsN a b, Bool.and_self]
theorem alike_encBs : ∀ P Q : Part, alikeAll (P.map encB) (Q.map encB) = true
  | [], _ => by simp [alikeAll]
  | _ :: _, [] => by simp [alikeAll]
  | x :: a, y :: b => by
    have h : alike (encB x) (encB y) = true := by
      unfold encB
      rw [alike]
      exact alike_intsN x y
    simp only [List.map_cons, alikeAll, h, alike_encBs a b, Bool.and_self]
theorem alike_encP (P Q : Part) : alike (encP P) (encP Q) = true := by
  unfold encP
  rw [alike]
  exact alike_encBs P Q
theorem toks_inj {x y : PyData} (ha : alike x y = true) (h : keyToks x = keyToks y) : PyData.eqv x y = true := by
  cases e : PyData.eqv x y with
  | true => rfl
  | false =>
    have q := (toks_eqv x y ha).2 e [.inl 0] [.inl 1]
    rw [h, lex_pre] at q
    have q2 : PyProof.Rows.lexLt itemOrd (keyToks y) (keyToks y) = false := PyProof.Rows.lex_irrefl _
    rw [q2] at q
    have q3 : PyProof.Rows.lexLt itemOrd [(.inl 0 : Int ⊕ List Nat)] [.inl 1] = true := by decide
    rw [q3] at q
    cases q
/-- the order that sorted goes by -/
def leP : Part → Part → Bool := dataLe false encP
theorem leP_total : TotalLe leP := sortLe_total (listOrd itemOrd) false fun b => keyToks (encP b)
theorem leP_antisymm {P Q : Part} (h1 : leP P Q = true) (h2 : leP Q P = true) : P = Q := by
  have e1 : (!PyProof.Rows.lexLt itemOrd (keyToks (encP Q)) (keyToks (encP P))) = true := h1
  have e2 : (!PyProof.Rows.lexLt itemOrd (keyToks (encP P)) (keyToks (encP Q))) = true := h2
  have f1 : PyProof.Rows.lexLt itemOrd (keyToks (encP Q)) (keyToks (encP P)) = false := by simpa using e1
  have f2 : PyProof.Rows.lexLt itemOrd (keyToks (encP P)) (keyToks (encP Q)) = false := by simpa using e2
  have e : keyToks (encP P) = keyToks (encP Q) := (PyProof.Rows.listOrd itemOrd).total _ _ f2 f1
  have q := toks_inj (alike_encP P Q) e
  rw [eqv_encP] at q
  exact of_decide_eq_true q
def srt (l : List Part) : List Part := l.mergeSort leP
theorem srt_perm (l : List Part) : (srt l).Perm l := List.mergeSort_perm l leP
theorem srt_mem {l : List Part} {P : Part} : P ∈ srt l ↔ P ∈ l := (srt_perm l).mem_iff
theorem srt_nodup {l : List Part} : (srt l).Nodup ↔ l.Nodup := (srt_perm l).nodup_iff
theorem srt_sorted (l : List Part) : (srt l).Pairwise fun a b => leP a b = true := sort_pairwise leP_total l
theorem sorted_uniq : ∀ {l m : List Part}, l.Perm m → (l.Pairwise fun a b => leP a b = true) → (m.Pairwise fun a b => leP a b = true) → l = m
  | [], m, h, _, _ => (List.Perm.nil_eq h)
  | x :: l, [], h, _, _ => absurd h.length_eq (by simp)
  | x :: l, y :: m, h, hl, hm => by
    have e : x = y := by
      rcases List.mem_cons.mp (h.mem_iff.mp (List.mem_cons_self (a := x) (l := l))) with e | hx
      · exact e
      · rcases List.mem_cons.mp (h.mem_iff.mpr (List.mem_cons_self (a := y) (l := m))) with e | hy
        · exact e.symm
        · exact leP_antisymm ((List.pairwise_cons.mp hl).1 y hy) ((List.pairwise_cons.mp hm).1 x hx)
    subst e
    rw [sorted_uniq h.cons_inv (List.pairwise_cons.mp hl).2 (List.pairwise_cons.mp hm).2]
theorem srt_eq {l m : List Part} (h : l.Perm m) : srt l = srt m :=
  sorted_uniq (((srt_perm l).trans h).trans (srt_perm m).symm) (srt_sorted l) (srt_sorted m)
theorem srt_srt (l : List Part) : srt (srt l) = srt l := srt_eq (srt_perm l)
theorem perm_of_mem {l m : List Part} (hl : l.Nodup) (hm : m.Nodup) (h : ∀ P, P ∈ l ↔ P ∈ m) : l.Perm m := (List.perm_ext_iff_of_nodup hl hm).mpr h
end J

set_option Elab.async false
set_option linter.all false
set_option maxRecDepth 100000
set_option maxHeartbeats 4000000
/-! JR3: sorted(parts), min(triples), tuple(d.values()). -/
namespace J
open PySem PySem.Spec PyProof.Rows PySem.W
abbrev DpA := @L2.DpAll
section
open L2
theorem dpAll_length {K : PySem.W.Frag} {H : Hp} : ∀ {xs : List V} {ds : List PyData}, DpAll K H xs ds → xs.length = ds.length
  | _, _, .nil => rfl
  | _, _, .cons _ t => by rw [List.length_cons, List.length_cons, dpAll_length t]
theorem dpAll_get {K : PySem.W.Frag} {H : Hp} : ∀ {xs : List V} {ds : List PyData} {i : Nat} {d : PyData}, DpAll K H xs ds → ds[i]? = some d → ∃ x, xs[i]? = some x ∧ Dp K H x d
  | _, _, _, _, .nil, h => by simp at h
  | _, _, 0, _, .cons h t, e => by
    simp only [List.getElem?_cons_zero, Option.some.injEq] at e
    subst e
    exact ⟨_, rfl, h⟩
  | _, _, i + 1, _, .cons h t, e => by
    obtain ⟨x, h1, h2⟩ := dpAll_get (i := i) t (by simpa using e)
    exact ⟨x, by simpa using h1, h2⟩
theorem dpAll_get' {K : PySem.W.Frag} {H : Hp} : ∀ {xs : List V} {ds : List PyData} {i : Nat} {x : V}, DpAll K H xs ds → xs[i]? = some x → ∃ d, ds[i]? = some d ∧ Dp K H x d
  | _, _, _, _, .nil, h => by simp at h
  | _, _, 0, _, .cons h t, e => by
    simp only [List.getElem?_cons_zero, Option.some.injEq] at e
    subst e
    exact ⟨_, rfl, h⟩
  | _, _, i + 1, _, .cons h t, e => by
    obtain ⟨x, h1, h2⟩ := dpAll_get' (i := i) t (by simpa using e)
    exact ⟨x, by simpa using h1, h2⟩
theorem dpAll_append {K : PySem.W.Frag} {H : Hp} : ∀ {xs : List V} {ds : List PyData} {ys : List V} {es : List PyData}, DpAll K H xs ds → DpAll K H ys es → DpAll K H (xs ++ ys) (ds ++ es)
  | _, _, _, _, .nil, h => h
  | _, _, _, _, .cons h t, h' => .cons h (dpAll_append t h')
theorem each_of {X : Cx} {H : Hp} {β : Type} {enc : β → PyData} : ∀ {xs : List V} {us : List Value} {bs : List β}, DpAll X.K H xs (bs.map enc) → Vals xs us → EachIs (fun u b => ∃ v, RelV v u ∧ Dp X.K H v (enc b)) us bs
  | _, _, [], h, r => by
    cases h
    cases r
    exact .nil
  | _, _, b :: bs, h, r => by
    cases h with
    | cons h1 h2 =>
      cases r with
      | cons r1 r2 => exact .cons ⟨_, r1, h1⟩ (each_of h2 r2)
theorem of_each {X : Cx} {H : Hp} {β : Type} {enc : β → PyData} : ∀ {us : List Value} {bs : List β}, EachIs (fun u b => ∃ v, RelV v u ∧ Dp X.K H v (enc b)) us bs → ∃ xs, DpAll X.K H xs (bs.map enc) ∧ Vals xs us
  | _, _, .nil => ⟨[], .nil, .nil⟩
  | _, _, .cons ⟨v, r, h⟩ t => by
    obtain ⟨xs, h1, h2⟩ := of_each t
    exact ⟨v :: xs, .cons h h1, .cons r h2⟩
variable {X : Cx}
/-- sorted(a list of parts) -/
def rSortP (K : PySem.W.Frag) : List V → Hp → VK → Prop := fun xs H Q => ∃ (l : Addr) (vs : List V) (Ps : List Part), xs = [.ref l] ∧ SqL K H l vs ∧ DpAll K H vs (Ps.map encP) ∧ (∀ P ∈ Ps, P ≠ []) ∧
  ∀ p ws, H p = none → DpAll K H ws ((srt Ps).map encP) → Q (.ref p) (upd H p (.lst ws))
theorem encB_depth (b : List Nat) : (encB b).depth ≤ 1 := by
  have h : ∀ b : List Nat, PyData.depthAll (b.map fun n : Nat => PyData.int (n : Int)) = 0 := by
    intro b
    induction b with
    | nil => rfl
    | cons n b ih => simp [PyData.depthAll, ih, PyData.depth]
  unfold encB
  simp [PyData.depth, h b]
theorem encP_depth (P : Part) : (encP P).depth ≤ 2 := by
  have h : ∀ P : Part, PyData.depthAll (P.map encB) ≤ 1 := by
    intro P
    induction P with
    | nil => simp [PyData.depthAll]
    | cons b P ih =>
      have := encB_depth b
      simp only [List.map_cons, PyData.depthAll]
      omega
  have := h P
  unfold encP
  simp only [PyData.depth]
  omega
theorem sortableP {Ps : List Part} (h : ∀ P ∈ Ps, P ≠ []) : Sortable (Ps.map encP) := .inl fun d hd => by
  obtain ⟨P, hP, rfl⟩ := List.mem_map.mp hd
  cases P with
  | nil => exact absurd rfl (h _ hP)
  | cons b P => exact ⟨encB b, P.map encB, rfl⟩
theorem call_sortP (hu : X.A.units + 65 < cLine) : CallR X (.builtin "sorted") (rSortP X.K) := by
  intro pins s σ H xs us Q I r h
  obtain ⟨l, vs, Ps, rfl, hl, hd, hne, q⟩ := h
  rw [Vals.ref1 r]
  obtain ⟨its, rv, pl, hz⟩ := I.list hl
  have e := each_of (enc := encP) hd rv
  have hlen : Ps.length = vs.length := by rw [dpAll_length hd, List.length_map]
  refine sorted_data (enc := encP) pl.isList e (e.mono fun u P ⟨v, hr, hv⟩ => Dp.reads I _ v u hv hr) (AllAlike.of alike_encP) (sortableP hne) (by omega) (fun P _ => ?_) fun out ho eo => ?_
  · have := encP_depth P
    omega
  · obtain ⟨ws, h1, h2⟩ := of_each eo
    obtain ⟨ep, he'⟩ := PyProof.Rows.sortedAll_at s.heap its out.toArray
    have hw : ws.length ≤ sizeLine := by rw [h2.length, ho]; omega
    exact ⟨.ref _, upd H (s.heap.objs.size + 1) (.lst ws), I.laid (t' := s.toks) (fun _ _ => PyProof.Rows.sortedAll_old) (Nat.le_succ _) ⟨hw, out, ep, h2, he'⟩, rfl, q _ ws (I.hok.fresh (Nat.le_succ _)) h1⟩

/-! ### min of triples -/
def tr3 (z : Int × Int × Int) : PyData := .tuple [.int z.1, .int z.2.1, .int z.2.2]
theorem alike3 (z z' : Int × Int × Int) : alike (tr3 z) (tr3 z') = true := by simp [tr3, alike, alikeAll]
theorem lt3 {z z' : Int × Int × Int} (ne : z.1 ≠ z'.1) : dataLt (tr3 z) (tr3 z') = decide (z.1 < z'.1) := by
  unfold tr3
  rw [dataLt_tuple, dataLt_all_no (by simp [alike]) (by simpa [PyData.eqv] using ne), dataLt_int]
theorem min3 : ∀ (zs : List (Int × Int × Int)) (z : Int × Int × Int), ∃ m, m ∈ z :: zs ∧ minD (tr3 z) (zs.map tr3) = tr3 m ∧ ∀ y ∈ z :: zs, m.1 ≤ y.1
  | [], z => ⟨z, List.mem_cons_self, rfl, fun y hy => by rw [List.mem_singleton.mp hy]; exact Int.le_refl _⟩
  | x :: zs, z => by
    have e : minD (tr3 z) ((x :: zs).map tr3) = minD (if dataLt (tr3 x) (tr3 z) = true then tr3 x else tr3 z) (zs.map tr3) := rfl
    by_cases c : dataLt (tr3 x) (tr3 z) = true
    · obtain ⟨m, h1, h2, h3⟩ := min3 zs x
      have l : x.1 ≤ z.1 := by
        by_cases ne : x.1 = z.1
        · omega
        · rw [lt3 ne] at c
          exact Int.le_of_lt (of_decide_eq_true c)
      refine ⟨m, List.mem_cons_of_mem _ h1, by rw [e, if_pos c]; exact h2, fun y hy => ?_⟩
      rcases List.mem_cons.mp hy with rfl | hy
      · exact Int.le_trans (h3 x List.mem_cons_self) l
      · exact h3 y hy
    · obtain ⟨m, h1, h2, h3⟩ := min3 zs z
      have l : z.1 ≤ x.1 := by
        by_cases ne : x.1 = z.1
        · omega
        · rw [lt3 ne, decide_eq_true_eq] at c
          omega
      refine ⟨m, ?_, by rw [e, if_neg c]; exact h2, fun y hy => ?_⟩
      · rcases List.mem_cons.mp h1 with rfl | h1
        · exact List.mem_cons_self
        · exact List.mem_cons_of_mem _ (List.mem_cons_of_mem _ h1)
      · rcases List.mem_cons.mp hy with rfl | hy
        · exact h3 y List.mem_cons_self
        · rcases List.mem_cons.mp hy with rfl | hy
          · exact Int.le_trans (h3 z List.mem_cons_self) l
          · exact h3 y (List.mem_cons_of_mem _ hy)
def rMin3 (K : PySem.W.Frag) : List V → Hp → VK → Prop := fun xs H Q => ∃ (l : Addr) (vs : List V) (zs : List (Int × Int × Int)), xs = [.ref l] ∧ SqL K H l vs ∧ DpAll K H vs (zs.map tr3) ∧ zs ≠ [] ∧
  ∀ m ∈ zs, (∀ y ∈ zs, m.1 ≤ y.1) → ∀ v, Dp K H v (tr3 m) → Q v H
theorem depth3 : ∀ zs : List (Int × Int × Int), PyData.depthAll (zs.map tr3) ≤ 1
  | [] => by simp [PyData.depthAll]
  | z :: zs => by
    have := depth3 zs
    have h : (tr3 z).depth = 1 := by simp [tr3, PyData.depth, PyData.depthAll]
    simp only [List.map_cons, PyData.depthAll]
    omega
theorem call_min3 (hc : X.calm = true) (hu : X.A.units + 65 < cLine) : CallR X (.builtin "min") (rMin3 X.K) := by
  intro pins s σ H xs us Q I r h
  obtain ⟨l, vs, zs, rfl, hl, hd, hne, q⟩ := h
  rw [Vals.ref1 r]
  obtain ⟨its, rv, pl, hz⟩ := I.list hl
  obtain ⟨as, ra⟩ := Dp.readsAll I _ vs its hd rv
  cases zs with
  | nil => exact absurd rfl hne
  | cons z zs =>
    have ra' : ReadsAll s.heap its.toArray.toList (tr3 z :: zs.map tr3) as := ra
    have al : AlikeAll (tr3 z :: zs.map tr3) := by
      refine ⟨fun x hx y hy => ?_, fun x hx => ?_⟩
      · obtain ⟨a, _, rfl⟩ := List.mem_map.mp (show x ∈ (z :: zs).map tr3 from hx)
        obtain ⟨b, _, rfl⟩ := List.mem_map.mp (show y ∈ (z :: zs).map tr3 from hy)
        exact alike3 a b
      · obtain ⟨a, _, rfl⟩ := List.mem_map.mp (show x ∈ (z :: zs).map tr3 from hx)
        exact fun e => nomatch e
    refine min_list_data (I.ok.hd hc) pl.isList ra' al (by have := depth3 (z :: zs); simp only [List.map_cons] at this; omega) fun i v h' tk bs hi hr kp => ?_
    obtain ⟨m, m1, m2, m3⟩ := min3 zs z
    have hi' : its[i]? = some v := by simpa using hi
    have hlv := rv.length
    obtain ⟨hil, _⟩ := List.getElem?_eq_some_iff.mp hi'
    obtain ⟨u, hu1, hu2⟩ := rv.get (i := i) (x := vs[i]) (List.getElem?_eq_getElem (by omega))
    have eu : u = v := Option.some.inj (hu1.symm.trans hi')
    subst eu
    obtain ⟨d, d1, d2⟩ := dpAll_get' hd (List.getElem?_eq_getElem (show i < vs.length by omega))
    obtain ⟨as2, r2⟩ := Dp.reads I d _ u d2 hu2
    rw [List.getElem?_map] at d1
    obtain ⟨y, hy, ey⟩ := Option.map_eq_some_iff.mp d1
    have lay : ∀ y, (tr3 y).canLay0 = true := fun y => by simp [tr3, PyData.canLay0, PyData.canLayAll0]
    have e1 := SeqAt.readOf_eq (h := h') (lay m) (by rw [← m2]; exact hr)
    have e2 := SeqAt.readOf_eq (h := h') (d := d) (by rw [← ey]; exact lay y) (PyProof.Rows.Reads.keeps kp r2)
    have e3 : d = tr3 m := e2.symm.trans e1
    refine ⟨vs[i], H, I.kept kp, hu2, q m m1 m3 _ ?_⟩
    rw [← e3]
    exact d2
end
end J

set_option Elab.async false
set_option linter.all false
set_option maxRecDepth 100000
set_option maxHeartbeats 4000000
/-! JR4: tuple(d.values()), d.get(k, x) of a written dict, == [] and != () of any items, data in a tuple. -/
namespace J
open PySem PySem.Spec PyProof.Rows L2
section
variable {prog : Program} {w : World} {A : Around} {E : Value → Shared → Prop} {s : Shared} {T : String} {r d : Addr} {n : Nat} {P : Nat → Value → Prop} {OK : Heap → Prop}
theorem sub_vals_tuple : isSubtype (.type "dict_values") (.type "tuple") = pure false := by rw [isSubtype_type]; kernel_rfl
/-- tuple(x), x a dict or one of its views: one collect (kdu_collect), then the tuple -/
theorem call_tuple_src {Q : Value → Shared → Prop} (K : PySem.W.KdlSrc prog w T r d n P OK) (hT : s.TypeIs (.ref r) T) (nt : isSubtype (.type T) (.type "tuple") = pure false) (hh : A.handled = none) (ok : OK s.heap) (few : n ≤ sizeLine)
    (out : ∀ (h' : Heap) (tk : Nat) (acc : Array Value), (∀ b o, s.heap.get? b = some o → h'.get? b = some o) → ItemsOf P acc n → Q (.ref h'.objs.size) { s with heap := h'.push (seqObj "tuple" acc 0), toks := tk }) :
    wpAny (model prog w) A (call (.type "tuple") [.ref r]) Q E s := by
  have C := F.called_tuple
  refine callType_codes (Q₁ := fun o s1 => s1.TypeIs o "tuple" ∧ Q o s1) C (F.typeCall_tuple_1 _) F.entry_object_init (codeAny_of_tree ?_)
    fun o s1 q => ⟨q.1, F.args_object_init_2 o _, object_init_meets C.init.lookup C.made (by decide) prog w A.in1 _ s1 ⟨q.1, rfl, q.2⟩⟩
  show wpAny _ A.in1.in1 (checkBuiltinCall "tuple.__new__" _ >>= fun _ => again (.builtin "tuple.__new__" _)) _ _ s
  refine wpAny_bind (wpAny_of_eq (F.newCall_tuple_1 _) (wpAny_pure ⟨plainId_quiet F.plain_tuple_new _, codeAny_builtin F.entry_tuple_new ?_⟩))
  rw [Around.under_plainId F.plain_tuple_new _]
  have f1 := sub_tuple_self
  have f2 := init_tuple_lookup
  have f3 := madeHere_tuple
  have f4 := K.notTuple
  wp_walk using wpAny_typeOf hT, PySem.W.kdu_collect (A := A.in1.in1) K hh ok few
  refine fun h' tk acc keep items => ?_
  have few1 : acc.size ≤ sizeLine := by rw [items.1]; exact few
  rw [← Array.toArray_toList (xs := acc)] at few1
  show wpAny _ _ (Builtin.Tuple.tupleExact acc.toList.toArray >>= ret) _ _ _
  refine wpAny_bind (wpAny_newObj_type (wpAny_pure ?_) (by show acc.toList.toArray.size ≤ sizeLine; exact few1))
  rw [Array.toArray_toList]
  exact ⟨⟨_, Heap.get?_push_size _ rfl, rfl⟩, out h' tk acc keep items⟩
end
section
variable {X : Cx} {e : Expr} {te : TE} {p apos cpos pos : Pos}
theorem vals_kv : ∀ {kvs : List (Key × V)} {vs : List (Key × Value)}, KV kvs vs → Vals (kvs.map (·.2)) (vs.map (·.2))
  | _, _, .nil => .nil
  | _, _, .cons h t => .cons h.2 (vals_kv t)
/-- tuple(d.values()) -/
def tTupVals (te : TE) : TE := fun σ H Q => te σ H fun x H1 => ∃ (d : Addr) (kvs : List (Key × V)), x = .ref d ∧ H1 d = some (.dK kvs) ∧ ∀ q, H1 q = none → Q (.ref q) (upd H1 q (.tup (kvs.map (·.2))))
theorem pe_tupVals (hc : X.calm = true) (he : PE X e te) (hg : Gl X "tuple") (hm : X.mg "tuple" = none) (hv : bootBuiltins "tuple" = some (.type "tuple")) (hbase : attributeBase e "values" X.env (eval e X.env) = eval e X.env := by rfl) (hline : (apos.endLine == cpos.line) = true := by rfl)
    (hs : starEach [.Call (.Attribute e "values" apos) [] [] cpos] X.env = (false, eval (.Call (.Attribute e "values" apos) [] [] cpos) X.env) :: starEach [] X.env := by rfl) :
    PE X (.Call (.Name "tuple" p) [.Call (.Attribute e "values" apos) [] [] cpos] [] pos) (tTupVals te) := by
  refine ⟨fun pins s σ H Q I hq => ?_⟩
  refine wpAny_Call_Name_kw (ld_blt I hg hm hv ?_)
  refine PyProof.Rows.callWith_type1 ?_ hs rfl
  rw [hs]
  show wpAny _ _ (spliced ((false, eval (.Call (.Attribute e "values" apos) [] [] cpos) X.env) :: backTo pos (starEach [] X.env))) _ _ s
  refine Calls.spliced_cons ?_
  refine wpAny_Call_method (T := "dict") (id := "dict.values") hbase rfl hline F.plainAttrs_dict F.slot_dict_values F.type_dict_values (thn (he.run pins s σ H _ I hq) fun u s1 ⟨x, H1, I1, rx, d, kvs, ex, hd, q⟩ => ?_)
  subst ex
  obtain rfl : u = Value.ref d := rx
  obtain ⟨hz, hs0, vs, kv, hdo⟩ := I1.hok d _ hd
  obtain ⟨ep, hat⟩ := hdo.dictAt
  have lk : kvs.length = vs.length := Paired.length kv
  have I2 : Inv X pins σ H1 { s1 with heap := s1.heap.push { cls := .type "dict_values", data := .fields #[.ref d] } } := I1.kept (t' := s1.toks) fun b ob q => Heap.get?_push_of_some _ q
  refine ⟨hdo.typeIs, hdo.mapOf.noDict, ?_⟩
  show wpAny _ _ (callWith cpos (.builtin "dict.values") [.ref d] [] []) _ X.xe s1
  refine method_meetsIn F.slot_dict_values F.entry_dict_values rfl (PySem.evalArgs_none ⟨rfl, hdo.typeIs, F.args_dict_values_1 _, _, meets_dict_values (mixKind X.prog X.w) d hs0, ⟨vs, hdo⟩, ?_⟩)
  refine Calls.spliced_nil ?_
  refine call_tuple_src (PySem.W.kdl_values (knd := mixKind X.prog X.w) (kvs := vs) (ep := ep) (r := s1.heap.objs.size) (d := d)) ⟨_, Heap.get?_push_size _ rfl, rfl⟩ sub_vals_tuple (I1.ok.hd hc) ⟨⟨_, Heap.get?_push_size _ rfl, rfl, rfl⟩, hat.push _⟩ (by omega) fun h' tk acc hk hacc => ?_
  have I3 : Inv X pins σ H1 { s1 with heap := h', toks := tk } := I2.kept (t' := tk) hk
  have e1 : acc.toList = vs.map (·.2) := PySem.W.kdl_vals_eq acc.toList (by rw [Array.length_toList]; exact hacc.1) fun j v e => hacc.2 j v (by rw [← Array.getElem?_toList]; exact e)
  have new : ObjOk X.prog X.w (upd H1 h'.objs.size (.tup (kvs.map (·.2)))) (h'.push { cls := .type "tuple", data := .seq acc }) h'.objs.size (.tup (kvs.map (·.2))) := by
    refine ⟨by rw [List.length_map]; exact hz, vs.map (·.2), vals_kv kv, ⟨_, Heap.get?_push_size _ rfl, rfl, 0, ?_⟩⟩
    show Data.seq acc 0 = Data.seq (vs.map (·.2)).toArray 0
    rw [← e1]
  exact ⟨.ref h'.objs.size, _, I3.laid (t' := tk) (fun b o q => Heap.get?_push_of_some _ q) (Nat.le_refl _) new, rfl, q _ (I3.hok.fresh (Nat.le_refl _))⟩

/-! ### == [], != () of any items -/
def rEqE (K : PySem.W.Frag) (neg : Bool) : R2 := fun x y H Q => ∃ (t : Bool) (a b : Addr) (xs : List V), x = .ref a ∧ y = .ref b ∧ SqB K H t a xs ∧ SqB K H t b [] ∧ Q (.bl (if neg then !xs.isEmpty else xs.isEmpty)) H
theorem op_eqE (hu : X.A.units < cLine) : OpR X (compareOp .Eq) (rEqE X.K false) := by
  intro pins s σ H x y v u Q I rx ry h
  obtain ⟨t, a, b, xs, rfl, rfl, ha, hb, q⟩ := h
  cases rx
  cases ry
  obtain ⟨its, rv, p1, _⟩ := sq_get I ha
  obtain ⟨its2, rv2, p2, _⟩ := sq_get I hb
  cases rv2
  have e0 : ∀ j (h1 : j < its.toArray.size) (h2 : j < (#[] : Array Value).size), SeqAt.EqAt X.A.in1 s its.toArray[j] (#[] : Array Value)[j] ((fun _ => true) j) := fun j _ h2 => absurd h2 (Nat.not_lt_zero _)
  cases t with
  | true =>
    refine SeqAt.eq_tupleAt (e := fun _ => true) p1 p2 hu e0 ?_
    refine fin_bl I q ?_
    cases rv <;> rfl
  | false =>
    cases rv with
    | nil => exact SeqAt.eq_listAt (e := fun _ => true) p1 p2 rfl hu e0 (fin_bl I q rfl)
    | cons _ _ => exact SeqAt.eq_list_lengthsAt p1 p2 (by simp) hu (fin_bl I q rfl)
theorem op_neE (hu : X.A.units < cLine) : OpR X (compareOp .NotEq) (rEqE X.K true) := by
  intro pins s σ H x y v u Q I rx ry h
  obtain ⟨t, a, b, xs, rfl, rfl, ha, hb, q⟩ := h
  cases rx
  cases ry
  obtain ⟨its, rv, p1, _⟩ := sq_get I ha
  obtain ⟨its2, rv2, p2, _⟩ := sq_get I hb
  cases rv2
  have e0 : ∀ j (h1 : j < its.toArray.size) (h2 : j < (#[] : Array Value).size), SeqAt.EqAt X.A.in1 s its.toArray[j] (#[] : Array Value)[j] ((fun _ => true) j) := fun j _ h2 => absurd h2 (Nat.not_lt_zero _)
  cases t with
  | true =>
    refine SeqAt.RcNeAt.tuples (e := fun _ => true) p1 p2 hu e0 X.prog X.w _ _ ?_
    refine fin_bl I q ?_
    cases rv <;> rfl
  | false =>
    cases rv with
    | nil => exact SeqAt.RcNeAt.lists (e := fun _ => true) p1 p2 rfl hu e0 X.prog X.w _ _ (fin_bl I q rfl)
    | cons _ _ => exact SeqAt.RcNeAt.lists_lengths p1 p2 (by simp) hu X.prog X.w _ _ (fin_bl I q rfl)

/-! ### data in a tuple -/
def rInT (K : PySem.W.Frag) (neg : Bool) : R2 := fun x y H Q => ∃ d ds, Dp K H x d ∧ Dp K H y (.tuple ds) ∧ SeqAt.shaped d = true ∧ SeqAt.shaped (.tuple ds) = true ∧ Q (.bl (if neg then !(ds.any fun z => PyData.eqv z d) else ds.any fun z => PyData.eqv z d)) H
theorem op_inT (hu : X.A.units + 65 < cLine) : OpR X (compareOp .In) (rInT X.K false) := by
  intro pins s σ H x y v u Q I rx ry h
  obtain ⟨d, ds, hd, he, sd, se, q⟩ := h
  obtain ⟨as, r1⟩ := Dp.reads I d x v hd rx
  obtain ⟨bs, r2⟩ := Dp.reads I (.tuple ds) y u he ry
  exact SeqAt.in_tuple_reads r2 r1 (SeqAt.canLay_of_shaped se) (SeqAt.canLay_of_shaped sd) (room_in_shaped sd hu) ⟨.bl _, H, I, rfl, q⟩
theorem op_notInT (hu : X.A.units + 65 < cLine) : OpR X (compareOp .NotIn) (rInT X.K true) := by
  intro pins s σ H x y v u Q I rx ry h
  obtain ⟨d, ds, hd, he, sd, se, q⟩ := h
  obtain ⟨as, r1⟩ := Dp.reads I d x v hd rx
  obtain ⟨bs, r2⟩ := Dp.reads I (.tuple ds) y u he ry
  exact SeqAt.notIn_tuple_reads r2 r1 (SeqAt.canLay_of_shaped se) (SeqAt.canLay_of_shaped sd) (room_in_shaped sd hu) ⟨.bl _, H, I, rfl, q⟩

/-! ### d.get(k, x) of a written dict: there -/
def tKGet (K : PySem.W.Frag) (w : World) (td ty tx : TE) : TE := fun σ H Q => td σ H fun x H1 => ∃ (a : Addr) (es : Array DictEntry) (n : Nat), x = .ref a ∧ KDict K w a es n ∧ ty σ H1 fun y H2 => tx σ H2 fun z H3 => ∃ (k : Str) (u0 : Value) (v0 : V), y = .str k ∧ PySem.W.nsIn K a k = some (some u0) ∧ RelV v0 u0 ∧ Q v0 H3
theorem pe_kget {o e f : Expr} {apos cpos : Pos} {td ty tx : TE} (ho : PE X o td) (he : PE X e ty) (hf : PE X f tx) (m : M2 X o "get" apos e f cpos) : PE X (.Call (.Attribute o "get" apos) [e, f] [] cpos) (tKGet X.K X.w td ty tx) := by
  refine ⟨fun pins s σ H Q I h => ?_⟩
  refine wpAny_Call_method m.base m.few m.line PySem.F.plainAttrs_dict PySem.F.slot_dict_get PySem.F.type_dict_get (thn (ho.run pins s σ H _ I h) fun u s1 ⟨x, H1, I1, rx, a, es, n, ex, D, q1⟩ => ?_)
  subst ex
  obtain rfl : u = Value.ref a := rx
  have mp := PySem.W.mapOf_K (prog := X.prog) (w := X.w) I1.kIn D.at_ D.lit
  refine ⟨mp.typeIs, mp.noDict, ?_⟩
  rw [m.trees]
  refine Calls.callWith_builtin rfl (Calls.evalArgs_plain (Calls.spliced_cons (thn (he.run pins s1 σ H1 _ I1 q1) fun iv s2 ⟨y, H2, I2, ry, q2⟩ =>
    Calls.spliced_cons (thn (hf.run pins s2 σ H2 _ I2 q2) fun fv s3 ⟨z, H3, I3, rz, k, u0, v0, ek, hn, r0, q3⟩ => Calls.spliced_nil ?_))))
  subst ek
  obtain ⟨t, rfl⟩ := ry
  have mp3 := PySem.W.mapOf_K (prog := X.prog) (w := X.w) I3.kIn D.at_ D.lit
  refine call_meetsIn PySem.F.slot_dict_get mp3.typeIs PySem.F.entry_dict_get (PySem.F.args_dict_get_3 _ _ _) (meets_dict_get_default (strKind X.prog X.w) a (strKind_is X.prog X.w k t) D.low fv) ⟨_, mp3, ?_⟩
  rw [PySem.W.find_K D.at_ hn]
  exact ⟨v0, H3, I3.tok _, r0, q3⟩
end
end J

set_option Elab.async false
set_option linter.all false
set_option maxRecDepth 100000
set_option maxHeartbeats 4000000
/-! JM2: trees of up to six places, ways, branches. -/
namespace J
abbrev Tree := List Nat
/-- the places from x to the first one -/
def down (t : Tree) : Nat → Nat → List Nat
  | 0, x => [x]
  | f + 1, x => if x = 0 then [0] else x :: down t f (t.getD (x - 1) 0)
def way (t : Tree) (x y : Nat) : List Nat := match (down t x x).find? fun p => (down t y y).contains p with
  | some m => (down t x x).take ((down t x x).idxOf m) ++ [m] ++ ((down t y y).take ((down t y y).idxOf m)).reverse
  | none => []
def gap (t : Tree) (x y : Nat) : Nat := (way t x y).length - 1
def TreeOk (t : Tree) : Prop := t.length ≤ 5 ∧ ∀ (k u : Nat), t[k]? = some u → u ≤ k

def treesN : Nat → List Tree
  | 0 => [[]]
  | n + 1 => (treesN n).flatMap fun t => (List.range (n + 1)).map fun k => t ++ [k]
theorem mem_treesN : ∀ (n : Nat) (t : Tree), t.length = n → (∀ (k u : Nat), t[k]? = some u → u ≤ k) → t ∈ treesN n
  | 0, t, h, _ => by
    rw [List.eq_nil_of_length_eq_zero h]
    exact List.mem_singleton.mpr rfl
  | n + 1, t, h, ho => by
    have hne : t ≠ [] := fun e => by rw [e] at h; cases h
    have e : t.dropLast ++ [t.getLast hne] = t := List.dropLast_concat_getLast hne
    have hl : t.dropLast.length = n := by rw [List.length_dropLast, h]; rfl
    refine List.mem_flatMap.mpr ⟨t.dropLast, mem_treesN n t.dropLast hl fun k u hk => ?_, List.mem_map.mpr ⟨t.getLast hne, ?_, e⟩⟩
    · refine ho k u ?_
      obtain ⟨hk1, hk2⟩ := List.getElem?_eq_some_iff.mp hk
      rw [← e, List.getElem?_append_left hk1]
      exact hk
    · have q : t[n]? = some (t.getLast hne) := by
        rw [List.getLast_eq_getElem hne, List.getElem?_eq_some_iff]
        exact ⟨by omega, by congr 1; omega⟩
      have := ho n _ q
      exact List.mem_range.mpr (by omega)
def allTrees : List Tree := treesN 0 ++ treesN 1 ++ treesN 2 ++ treesN 3 ++ treesN 4 ++ treesN 5
theorem mem_allTrees {t : Tree} (h : TreeOk t) : t ∈ allTrees := by
  have m := mem_treesN t.length t rfl h.2
  have hl := h.1
  unfold allTrees
  simp only [List.mem_append]
  generalize t.length = n at m hl
  match n, hl with
  | 0, _ => exact .inl (.inl (.inl (.inl (.inl m))))
  | 1, _ => exact .inl (.inl (.inl (.inl (.inr m))))
  | 2, _ => exact .inl (.inl (.inl (.inr m)))
  | 3, _ => exact .inl (.inl (.inr m))
  | 4, _ => exact .inl (.inr m)
  | 5, _ => exact .inr m
/-- the law's own table of gaps -/
def lawGaps (t : Tree) : List (List Nat) := t.foldl (fun found up => (List.zipWith (fun row g => row ++ [g]) found ((found.getD up []).map (· + 1))) ++ [(found.getD up []).map (· + 1) ++ [0]]) [[0]]
def gapsL (t : Tree) : List (List Nat) := (List.range (t.length + 1)).map fun x => (List.range (t.length + 1)).map fun y => gap t x y
def chk2 (t : Tree) (x y : Nat) : Bool :=
  (way t x y).contains x && ((way t x y).contains y && ((way t x y).all (fun m => decide (m ≤ t.length)) && (decide (gap t y x = gap t x y) &&
    ((!decide (y < x) || (way t x y).contains (t.getD (x - 1) 0)) && ((way t x y).all (fun a => (way t x a).all fun m => (way t x y).contains m) &&
      (List.range (t.length + 1)).all fun z => ((way t y z).all fun m => (way t x y).contains m || (way t x z).contains m) && (decide (gap t x z + gap t z y = gap t x y) == (way t x y).contains z))))))
def chk (t : Tree) : Bool := decide (lawGaps t = gapsL t) && ((List.range (t.length + 1)).all fun x => decide (gap t x x = 0) && ((List.range (t.length + 1)).all fun y => chk2 t x y))
theorem chk_all : allTrees.all chk = true := by decide +kernel
theorem chk_of {t : Tree} (h : TreeOk t) : chk t = true := List.all_eq_true.mp chk_all t (mem_allTrees h)

section
variable {t : Tree} {x y z m a : Nat}
theorem lawGaps_eq (h : TreeOk t) : lawGaps t = gapsL t := by
  have c := chk_of h
  unfold chk at c
  rw [Bool.and_eq_true] at c
  exact of_decide_eq_true c.1
theorem chk_x (h : TreeOk t) (hx : x ≤ t.length) : gap t x x = 0 ∧ ∀ y, y ≤ t.length → chk2 t x y = true := by
  have c := chk_of h
  unfold chk at c
  rw [Bool.and_eq_true] at c
  have c2 := List.all_eq_true.mp c.2 x (List.mem_range.mpr (by omega))
  rw [Bool.and_eq_true] at c2
  exact ⟨of_decide_eq_true c2.1, fun y hy => List.all_eq_true.mp c2.2 y (List.mem_range.mpr (by omega))⟩
theorem gap_self (h : TreeOk t) (hx : x ≤ t.length) : gap t x x = 0 := (chk_x h hx).1
theorem con {l : List Nat} (h : l.contains a = true) : a ∈ l := by simpa using h
structure WayOk (t : Tree) (x y : Nat) : Prop where
  l : x ∈ way t x y
  r : y ∈ way t x y
  le : ∀ m ∈ way t x y, m ≤ t.length
  sym : gap t y x = gap t x y
  up : y < x → t.getD (x - 1) 0 ∈ way t x y
  sub : ∀ a ∈ way t x y, ∀ m ∈ way t x a, m ∈ way t x y
  tri : ∀ z, z ≤ t.length → ∀ m ∈ way t y z, m ∈ way t x y ∨ m ∈ way t x z
  on : ∀ z, z ≤ t.length → (gap t x z + gap t z y = gap t x y ↔ z ∈ way t x y)
theorem way_ok (h : TreeOk t) (hx : x ≤ t.length) (hy : y ≤ t.length) : WayOk t x y := by
  have c := (chk_x h hx).2 y hy
  unfold chk2 at c
  simp only [Bool.and_eq_true] at c
  obtain ⟨c1, c2, c3, c4, c5, c6, c7⟩ := c
  refine ⟨con c1, con c2, fun m hm => of_decide_eq_true (List.all_eq_true.mp c3 m hm), of_decide_eq_true c4, fun hl => ?_, fun a ha m hm => ?_, fun z hz m hm => ?_, fun z hz => ?_⟩
  · rw [decide_eq_true hl] at c5
    simpa using c5
  · exact con (List.all_eq_true.mp (List.all_eq_true.mp c6 a ha) m hm)
  · have q := List.all_eq_true.mp c7 z (List.mem_range.mpr (by omega))
    simp only [Bool.and_eq_true] at q
    have q2 := List.all_eq_true.mp q.1 m hm
    rcases Bool.or_eq_true_iff.mp q2 with w | w
    · exact .inl (con w)
    · exact .inr (con w)
  · have q := List.all_eq_true.mp c7 z (List.mem_range.mpr (by omega))
    simp only [Bool.and_eq_true] at q
    have q2 : decide (gap t x z + gap t z y = gap t x y) = (way t x y).contains z := eq_of_beq q.2
    constructor
    · intro e
      rw [decide_eq_true e] at q2
      exact con q2.symm
    · intro e
      have e2 : (way t x y).contains z = true := by simpa using e
      rw [e2] at q2
      exact of_decide_eq_true q2
end

/-! ### branches -/
structure BrOk (t : Tree) (b : List Nat) : Prop where
  ne : b ≠ []
  sorted : b.Pairwise (· < ·)
  le : ∀ x ∈ b, x ≤ t.length
  conv : ∀ x ∈ b, ∀ y ∈ b, ∀ m ∈ way t x y, m ∈ b
def srtN (S : Nat → Bool) : List Nat := (List.range 6).filter S
theorem srtN_mem {S : Nat → Bool} {k : Nat} : k ∈ srtN S ↔ k < 6 ∧ S k = true := by
  unfold srtN
  rw [List.mem_filter, List.mem_range]
theorem srtN_sorted (S : Nat → Bool) : (srtN S).Pairwise (· < ·) := List.Pairwise.filter _ List.pairwise_lt_range
theorem sortedN_uniq : ∀ {l m : List Nat}, l.Pairwise (· < ·) → m.Pairwise (· < ·) → (∀ k, k ∈ l ↔ k ∈ m) → l = m
  | [], [], _, _, _ => rfl
  | [], y :: m, _, _, h => absurd ((h y).mpr List.mem_cons_self) (by simp)
  | x :: l, [], _, _, h => absurd ((h x).mp List.mem_cons_self) (by simp)
  | x :: l, y :: m, hl, hm, h => by
    have hl1 := (List.pairwise_cons.mp hl).1
    have hm1 := (List.pairwise_cons.mp hm).1
    have e : x = y := by
      rcases List.mem_cons.mp ((h x).mp List.mem_cons_self) with e | hx
      · exact e
      · rcases List.mem_cons.mp ((h y).mpr List.mem_cons_self) with e | hy
        · exact e.symm
        · have a := hl1 y hy
          have b := hm1 x hx
          omega
    subst e
    rw [sortedN_uniq (List.pairwise_cons.mp hl).2 (List.pairwise_cons.mp hm).2 fun k => ⟨fun hk => ?_, fun hk => ?_⟩]
    · rcases List.mem_cons.mp ((h k).mp (List.mem_cons_of_mem _ hk)) with e | q
      · have := hl1 k hk; omega
      · exact q
    · rcases List.mem_cons.mp ((h k).mpr (List.mem_cons_of_mem _ hk)) with e | q
      · have := hm1 k hk; omega
      · exact q
/-- the least branch round f and os -/
def aroundF (t : Tree) (f : Nat) (os : List Nat) : List Nat := srtN fun k => k == f || os.any fun o => (way t f o).contains k
def around (t : Tree) : List Nat → List Nat
  | [] => []
  | f :: os => aroundF t f os
theorem aroundF_mem {t : Tree} (h : TreeOk t) {f : Nat} {os : List Nat} (hf : f ≤ t.length) (ho : ∀ o ∈ os, o ≤ t.length) {k : Nat} : k ∈ aroundF t f os ↔ k = f ∨ ∃ o ∈ os, k ∈ way t f o := by
  have hl := h.1
  unfold aroundF
  rw [srtN_mem]
  constructor
  · rintro ⟨_, q⟩
    rcases Bool.or_eq_true_iff.mp q with q | q
    · exact .inl (eq_of_beq q)
    · obtain ⟨o, ho, q⟩ := List.any_eq_true.mp q
      exact .inr ⟨o, ho, con q⟩
  · intro q
    rcases q with rfl | ⟨o, hm, q⟩
    · exact ⟨by omega, by simp⟩
    · have := (way_ok h hf (ho o hm)).le k q
      refine ⟨by omega, Bool.or_eq_true_iff.mpr (.inr (List.any_eq_true.mpr ⟨o, hm, by simpa using q⟩))⟩
theorem aroundF_ok {t : Tree} (h : TreeOk t) {f : Nat} {os : List Nat} (hf : f ≤ t.length) (ho : ∀ o ∈ os, o ≤ t.length) : BrOk t (aroundF t f os) := by
  have le : ∀ x ∈ aroundF t f os, x ≤ t.length := fun x hx => by
    rcases (aroundF_mem h hf ho).mp hx with rfl | ⟨o, hm, q⟩
    · exact hf
    · exact (way_ok h hf (ho o hm)).le x q
  -- all on the way from f to a member are members
  have sub : ∀ x ∈ aroundF t f os, ∀ m ∈ way t f x, m ∈ aroundF t f os := fun x hx m hm => by
    rcases (aroundF_mem h hf ho).mp hx with e | ⟨o, ho2, q⟩
    · rw [e] at hm
      have w := way_ok h hf hf
      have g := (w.on m (w.le m hm)).mpr hm
      have g2 := gap_self h hf
      have hm0 : gap t f m = 0 := by omega
      have e2 : m = f := by
        have c : ∀ t' ∈ allTrees, (List.range (t'.length + 1)).all (fun a => (List.range (t'.length + 1)).all fun b => !decide (gap t' a b = 0) || decide (a = b)) = true := by
          have c0 : allTrees.all (fun t' => (List.range (t'.length + 1)).all (fun a => (List.range (t'.length + 1)).all fun b => !decide (gap t' a b = 0) || decide (a = b))) = true := by decide +kernel
          exact fun t' h' => List.all_eq_true.mp c0 t' h'
        have c1 := List.all_eq_true.mp (List.all_eq_true.mp (c t (mem_allTrees h)) f (List.mem_range.mpr (by omega))) m (List.mem_range.mpr (by have := w.le m hm; omega))
        rw [decide_eq_true hm0] at c1
        have c2 : decide (f = m) = true := by simpa using c1
        exact (of_decide_eq_true c2).symm
      rw [e2]
      exact (aroundF_mem h hf ho).mpr (.inl rfl)
    · exact (aroundF_mem h hf ho).mpr (.inr ⟨o, ho2, (way_ok h hf (ho o ho2)).sub x q m hm⟩)
  refine ⟨fun e => ?_, srtN_sorted _, le, fun x hx y hy m hm => ?_⟩
  · have q : f ∈ aroundF t f os := (aroundF_mem h hf ho).mpr (.inl rfl)
    rw [e] at q
    cases q
  · rcases (way_ok h hf (le x hx)).tri y (le y hy) m hm with q | q
    · exact sub x hx m q
    · exact sub y hy m q
theorem around_sub {t : Tree} (h : TreeOk t) {f : Nat} {os c : List Nat} (hf : f ≤ t.length) (ho : ∀ o ∈ os, o ≤ t.length) (hc : BrOk t c) (h1 : f ∈ c) (h2 : ∀ o ∈ os, o ∈ c) : ∀ k ∈ aroundF t f os, k ∈ c := fun k hk => by
  rcases (aroundF_mem h hf ho).mp hk with rfl | ⟨o, hm, q⟩
  · exact h1
  · exact hc.conv f h1 o (h2 o hm) k q
theorem around_has {t : Tree} (h : TreeOk t) {f : Nat} {os : List Nat} (hf : f ≤ t.length) (ho : ∀ o ∈ os, o ≤ t.length) : ∀ k ∈ f :: os, k ∈ aroundF t f os := fun k hk => by
  rcases List.mem_cons.mp hk with rfl | hk
  · exact (aroundF_mem h hf ho).mpr (.inl rfl)
  · exact (aroundF_mem h hf ho).mpr (.inr ⟨k, hk, (way_ok h hf (ho k hk)).r⟩)
/-- from each but the first a branch goes up -/
theorem br_up {t : Tree} (h : TreeOk t) {f : Nat} {os : List Nat} (hb : BrOk t (f :: os)) : ∀ p ∈ os, t.getD (p - 1) 0 ∈ f :: os := fun p hp => by
  have lt : f < p := (List.pairwise_cons.mp hb.sorted).1 p hp
  have hpb : p ∈ f :: os := List.mem_cons_of_mem _ hp
  exact hb.conv p hpb f List.mem_cons_self _ ((way_ok h (hb.le p hpb) (hb.le f List.mem_cons_self)).up lt)
end J

set_option Elab.async false
set_option linter.all false
set_option maxRecDepth 100000
set_option maxHeartbeats 4000000
/-! JM3: parts, how far they are apart, hulls; what stands. -/
namespace J
def lg (t : Tree) (a b : List Nat) : Nat := ((a.flatMap fun x => b.map fun y => gap t x y).min?).getD 0
theorem lg_spec {t : Tree} {a b : List Nat} (ha : a ≠ []) (hb : b ≠ []) : (∃ x ∈ a, ∃ y ∈ b, lg t a b = gap t x y) ∧ ∀ x ∈ a, ∀ y ∈ b, lg t a b ≤ gap t x y := by
  unfold lg
  cases e : (a.flatMap fun x => b.map fun y => gap t x y).min? with
  | none =>
    have q := List.min?_eq_none_iff.mp e
    obtain ⟨x, hx⟩ := List.exists_mem_of_ne_nil a ha
    obtain ⟨y, hy⟩ := List.exists_mem_of_ne_nil b hb
    have m : gap t x y ∈ a.flatMap fun x => b.map fun y => gap t x y := List.mem_flatMap.mpr ⟨x, hx, List.mem_map.mpr ⟨y, hy, rfl⟩⟩
    rw [q] at m
    cases m
  | some g =>
    obtain ⟨m, l⟩ := List.min?_eq_some_iff.mp e
    refine ⟨?_, fun x hx y hy => l _ (List.mem_flatMap.mpr ⟨x, hx, List.mem_map.mpr ⟨y, hy, rfl⟩⟩)⟩
    obtain ⟨x, hx, m⟩ := List.mem_flatMap.mp m
    obtain ⟨y, hy, m⟩ := List.mem_map.mp m
    exact ⟨x, hx, y, hy, m.symm⟩
/-- the least by what it is -/
theorem lg_is {t : Tree} {a b : List Nat} {g : Nat} (h1 : ∃ x ∈ a, ∃ y ∈ b, g = gap t x y) (h2 : ∀ x ∈ a, ∀ y ∈ b, g ≤ gap t x y) : lg t a b = g := by
  obtain ⟨x, hx, y, hy, e⟩ := h1
  obtain ⟨⟨x', hx', y', hy', e'⟩, l⟩ := lg_spec (t := t) (List.ne_nil_of_mem hx) (List.ne_nil_of_mem hy)
  have l1 := l x hx y hy
  have l2 := h2 x' hx' y' hy'
  omega

def POk : List Tree → Part → Prop
  | [], [] => True
  | t :: T, b :: P => BrOk t b ∧ POk T P
  | _, _ => False
def TsOk (T : List Tree) : Prop := ∀ t ∈ T, TreeOk t
def far : List Tree → Part → Part → Nat
  | t :: T, a :: P, b :: Q => lg t a b + far T P Q
  | _, _, _ => 0
def hull : List Tree → Part → Part → Part
  | t :: T, a :: P, b :: Q => around t (a ++ b) :: hull T P Q
  | _, _, _ => []
def Ins : Part → Part → Prop
  | [], [] => True
  | a :: P, b :: Q => (∀ x ∈ a, x ∈ b) ∧ Ins P Q
  | _, _ => False
theorem tsOk_cons {t : Tree} {T : List Tree} (h : TsOk (t :: T)) : TreeOk t ∧ TsOk T := ⟨h t List.mem_cons_self, fun u hu => h u (List.mem_cons_of_mem _ hu)⟩
theorem POk.length : ∀ {T : List Tree} {P : Part}, POk T P → P.length = T.length
  | [], [], _ => rfl
  | t :: T, b :: P, h => congrArg Nat.succ (POk.length (T := T) (P := P) h.2)
  | [], _ :: _, h => h.elim
  | _ :: _, [], h => h.elim
instance insDec : ∀ P Q : Part, Decidable (Ins P Q)
  | [], [] => .isTrue trivial
  | a :: P, b :: Q => match insDec P Q with
    | .isTrue h => if h2 : ∀ x ∈ a, x ∈ b then .isTrue ⟨h2, h⟩ else .isFalse fun z => h2 z.1
    | .isFalse h => .isFalse fun z => h z.2
  | [], _ :: _ => .isFalse fun z => z.elim
  | _ :: _, [] => .isFalse fun z => z.elim
theorem ins_refl : ∀ P : Part, Ins P P
  | [] => trivial
  | _ :: P => ⟨fun _ h => h, ins_refl P⟩
theorem ins_trans : ∀ {P Q R : Part}, Ins P Q → Ins Q R → Ins P R
  | [], [], [], _, _ => trivial
  | _ :: _, _ :: _, _ :: _, h1, h2 => ⟨fun x hx => h2.1 x (h1.1 x hx), ins_trans h1.2 h2.2⟩
  | [], _ :: _, _, h, _ => h.elim
  | _ :: _, [], _, h, _ => h.elim
  | [], [], _ :: _, _, h => h.elim
  | _ :: _, _ :: _, [], _, h => h.elim
theorem ins_anti : ∀ {T : List Tree} {P Q : Part}, POk T P → POk T Q → Ins P Q → Ins Q P → P = Q
  | [], [], [], _, _, _, _ => rfl
  | t :: T, a :: P, b :: Q, h1, h2, h3, h4 => by
    rw [sortedN_uniq h1.1.sorted h2.1.sorted fun k => ⟨h3.1 k, h4.1 k⟩, ins_anti h1.2 h2.2 h3.2 h4.2]
  | [], _ :: _, _, h, _, _, _ => h.elim
  | [], [], _ :: _, _, h, _, _ => h.elim
  | _ :: _, [], _, h, _, _, _ => h.elim
  | _ :: _, _ :: _, [], _, h, _, _ => h.elim
theorem far_mono : ∀ {T : List Tree} {P P' Q Q' : Part}, POk T P → POk T P' → POk T Q → POk T Q' → Ins P P' → Ins Q Q' → far T P' Q' ≤ far T P Q
  | [], [], [], [], [], _, _, _, _, _, _ => Nat.le_refl _
  | t :: T, a :: P, a' :: P', b :: Q, b' :: Q', h1, h2, h3, h4, i1, i2 => by
    have ih := far_mono h1.2 h2.2 h3.2 h4.2 i1.2 i2.2
    obtain ⟨⟨x, hx, y, hy, e⟩, _⟩ := lg_spec (t := t) h1.1.ne h3.1.ne
    have l := (lg_spec (t := t) h2.1.ne h4.1.ne).2 x (i1.1 x hx) y (i2.1 y hy)
    show lg t a' b' + far T P' Q' ≤ lg t a b + far T P Q
    omega
  | [], _ :: _, _, _, _, h, _, _, _, _, _ => h.elim
  | [], [], _ :: _, _, _, _, h, _, _, _, _ => h.elim
  | [], [], [], _ :: _, _, _, _, h, _, _, _ => h.elim
  | [], [], [], [], _ :: _, _, _, _, h, _, _ => h.elim
  | _ :: _, [], _, _, _, h, _, _, _, _, _ => h.elim
  | _ :: _, _ :: _, [], _, _, _, h, _, _, _, _ => h.elim
  | _ :: _, _ :: _, _ :: _, [], _, _, _, h, _, _, _ => h.elim
  | _ :: _, _ :: _, _ :: _, _ :: _, [], _, _, _, h, _, _ => h.elim
theorem far_ins : ∀ {T : List Tree} {P Q : Part}, TsOk T → POk T P → POk T Q → Ins P Q → far T P Q = 0
  | [], [], [], _, _, _, _ => rfl
  | t :: T, a :: P, b :: Q, hT, h1, h2, i => by
    have ih := far_ins (tsOk_cons hT).2 h1.2 h2.2 i.2
    obtain ⟨x, hx⟩ := List.exists_mem_of_ne_nil a h1.1.ne
    have l := (lg_spec (t := t) h1.1.ne h2.1.ne).2 x hx x (i.1 x hx)
    rw [gap_self (tsOk_cons hT).1 (h1.1.le x hx)] at l
    show lg t a b + far T P Q = 0
    omega
  | [], _ :: _, _, _, h, _, _ => h.elim
  | [], [], _ :: _, _, _, h, _ => h.elim
  | _ :: _, [], _, _, h, _, _ => h.elim
  | _ :: _, _ :: _, [], _, _, h, _ => h.elim
theorem lg_comm {t : Tree} {a b : List Nat} (h : TreeOk t) (h1 : BrOk t a) (h2 : BrOk t b) : lg t a b = lg t b a := by
  obtain ⟨⟨x, hx, y, hy, e⟩, l⟩ := lg_spec (t := t) h2.ne h1.ne
  refine lg_is ⟨y, hy, x, hx, ?_⟩ fun u hu v hv => ?_
  · rw [e]
    exact ((way_ok h (h2.le x hx) (h1.le y hy)).sym).symm
  · rw [← (way_ok h (h1.le u hu) (h2.le v hv)).sym]
    exact l v hv u hu
theorem far_comm : ∀ {T : List Tree} {P Q : Part}, TsOk T → POk T P → POk T Q → far T P Q = far T Q P
  | [], [], [], _, _, _ => rfl
  | t :: T, a :: P, b :: Q, hT, h1, h2 => by
    show lg t a b + far T P Q = lg t b a + far T Q P
    rw [lg_comm (tsOk_cons hT).1 h1.1 h2.1, far_comm (tsOk_cons hT).2 h1.2 h2.2]
  | [], _ :: _, _, _, h, _ => h.elim
  | [], [], _ :: _, _, _, h => h.elim
  | _ :: _, [], _, _, h, _ => h.elim
  | _ :: _, _ :: _, [], _, _, h => h.elim
theorem around_two {t : Tree} {a b : List Nat} (h : TreeOk t) (h1 : BrOk t a) (h2 : BrOk t b) : BrOk t (around t (a ++ b)) ∧ (∀ x ∈ a, x ∈ around t (a ++ b)) ∧ (∀ x ∈ b, x ∈ around t (a ++ b)) ∧
    ∀ c, BrOk t c → (∀ x ∈ a, x ∈ c) → (∀ x ∈ b, x ∈ c) → ∀ x ∈ around t (a ++ b), x ∈ c := by
  cases a with
  | nil => exact absurd rfl h1.ne
  | cons f os =>
    have hf := h1.le f List.mem_cons_self
    have ho : ∀ o ∈ os ++ b, o ≤ t.length := fun o hm => by
      rcases List.mem_append.mp hm with hm | hm
      · exact h1.le o (List.mem_cons_of_mem _ hm)
      · exact h2.le o hm
    have hh := around_has h hf ho
    refine ⟨aroundF_ok h hf ho, fun x hx => ?_, fun x hx => ?_, fun c hc c1 c2 => ?_⟩
    · refine hh x ?_
      rcases List.mem_cons.mp hx with e | hx
      · rw [e]; exact List.mem_cons_self
      · exact List.mem_cons_of_mem _ (List.mem_append_left _ hx)
    · exact hh x (List.mem_cons_of_mem _ (List.mem_append_right _ hx))
    · refine around_sub h hf ho hc (c1 f List.mem_cons_self) fun o hm => ?_
      rcases List.mem_append.mp hm with hm | hm
      · exact c1 o (List.mem_cons_of_mem _ hm)
      · exact c2 o hm
theorem hull_ok : ∀ {T : List Tree} {P Q : Part}, TsOk T → POk T P → POk T Q → POk T (hull T P Q) ∧ Ins P (hull T P Q) ∧ Ins Q (hull T P Q) ∧ ∀ R, POk T R → Ins P R → Ins Q R → Ins (hull T P Q) R
  | [], [], [], _, _, _ => ⟨trivial, trivial, trivial, fun R h _ _ => by cases R with | nil => trivial | cons _ _ => exact h.elim⟩
  | t :: T, a :: P, b :: Q, hT, h1, h2 => by
    obtain ⟨a1, a2, a3, a4⟩ := around_two (tsOk_cons hT).1 h1.1 h2.1
    obtain ⟨b1, b2, b3, b4⟩ := hull_ok (tsOk_cons hT).2 h1.2 h2.2
    refine ⟨⟨a1, b1⟩, ⟨a2, b2⟩, ⟨a3, b3⟩, fun R hR i1 i2 => ?_⟩
    cases R with
    | nil => exact hR.elim
    | cons c R => exact ⟨a4 c hR.1 i1.1 i2.1, b4 R hR.2 i1.2 i2.2⟩
  | [], _ :: _, _, _, h, _ => h.elim
  | [], [], _ :: _, _, _, h => h.elim
  | _ :: _, [], _, _, h, _ => h.elim
  | _ :: _, _ :: _, [], _, _, h => h.elim

/-! ### families, what stands -/
/-- parts that lie apart at r -/
def Fam (T : List Tree) (r : Nat) (G : List Part) : Prop := (∀ P ∈ G, POk T P) ∧ ∀ P ∈ G, ∀ Q ∈ G, P ≠ Q → r < far T P Q
/-- each of Ps lies in one of G -/
def Under (Ps G : List Part) : Prop := ∀ P ∈ Ps, ∃ Q ∈ G, Ins P Q
structure IsStand (T : List Tree) (r : Nat) (Ps F : List Part) : Prop where
  srt : F = srt F
  nd : F.Nodup
  fam : Fam T r F
  under : Under Ps F
  fine : ∀ G, Fam T r G → Under Ps G → Under F G
section
variable {T : List Tree} {r r' : Nat} {Ps Ps' F F' G : List Part} {P Q R : Part}
theorem Fam.one (hT : TsOk T) (h : Fam T r G) (hP : P ∈ G) (hQ : Q ∈ G) (i : Ins P Q) : P = Q := Classical.byContradiction fun ne => by
  have l := h.2 P hP Q hQ ne
  rw [far_ins hT (h.1 P hP) (h.1 Q hQ) i] at l
  exact Nat.not_lt_zero _ l
theorem Under.trans (h1 : Under Ps F) (h2 : Under F G) : Under Ps G := fun P hP => by
  obtain ⟨Q, hQ, i⟩ := h1 P hP
  obtain ⟨R, hR, j⟩ := h2 Q hQ
  exact ⟨R, hR, ins_trans i j⟩
theorem Fam.of_under (hT : TsOk T) (h : Fam T r F) (h' : Fam T r F') (u : Under F F') (u' : Under F' F) (hP : P ∈ F) : P ∈ F' := by
  obtain ⟨Q, hQ, i⟩ := u P hP
  obtain ⟨R, hR, j⟩ := u' Q hQ
  have e := h.one hT hP hR (ins_trans i j)
  subst e
  rw [ins_anti (h.1 P hP) (h'.1 Q hQ) i j]
  exact hQ
theorem IsStand.uniq (hT : TsOk T) (h : IsStand T r Ps F) (h' : IsStand T r Ps' F') (e : ∀ P, P ∈ Ps ↔ P ∈ Ps') : F = F' := by
  have u : Under F F' := h.fine F' h'.fam fun P hP => h'.under P ((e P).mp hP)
  have u' : Under F' F := h'.fine F h.fam fun P hP => h.under P ((e P).mpr hP)
  rw [h.srt, h'.srt]
  exact srt_eq (perm_of_mem h.nd h'.nd fun P => ⟨h.fam.of_under hT h'.fam u u', h'.fam.of_under hT h.fam u' u⟩)
theorem Fam.mono (h : Fam T r' G) (l : r ≤ r') : Fam T r G := ⟨h.1, fun P hP Q hQ ne => Nat.lt_of_le_of_lt l (h.2 P hP Q hQ ne)⟩
/-- what goes where the one family lies under the other: it lies in what comes -/
theorem gone_in (hT : TsOk T) (h : Fam T r F) (u : Under F F') : ∀ P ∈ F.filter (fun P => !F'.contains P), ∃ Q ∈ F'.filter (fun P => !F.contains P), Ins P Q := fun P hP => by
  obtain ⟨h1, h2⟩ := List.mem_filter.mp hP
  obtain ⟨Q, hQ, i⟩ := u P h1
  refine ⟨Q, List.mem_filter.mpr ⟨hQ, ?_⟩, i⟩
  have hn : Q ∉ F := fun hm => by
    have e := h.one hT h1 hm i
    subst e
    have q : F'.contains P = true := by simpa using hQ
    rw [q] at h2
    cases h2
  simpa using hn
/-- a greater reach: what goes lies in what comes -/
theorem reach_law (hT : TsOk T) (h : IsStand T r Ps F) (h' : IsStand T r' Ps F') (l : r ≤ r') : ∀ P ∈ F.filter (fun P => !F'.contains P), ∃ Q ∈ F'.filter (fun P => !F.contains P), Ins P Q :=
  gone_in hT h.fam (h.fine F' (h'.fam.mono l) h'.under)
theorem len_two {l : List Part} (nd : l.Nodup) (h : ∀ P ∈ l, ∀ Q ∈ l, P = Q) : l.length < 2 := by
  match l, nd, h with
  | [], _, _ => exact Nat.zero_lt_two
  | [_], _, _ => exact Nat.lt_succ_self 1
  | P :: Q :: l, nd, h =>
    have e := h P List.mem_cons_self Q (List.mem_cons_of_mem _ List.mem_cons_self)
    rw [e] at nd
    exact absurd rfl ((List.pairwise_cons.mp nd).1 Q List.mem_cons_self)
/-- one part more: one part at most comes -/
theorem put_law (hT : TsOk T) (h : IsStand T r Ps F) (h' : IsStand T r Ps' F') (e : ∀ Q, Q ∈ Ps' ↔ Q ∈ Ps ∨ Q = P) :
    (F'.filter fun Q => !F.contains Q).length < 2 ∧ ∀ Q ∈ F.filter (fun Q => !F'.contains Q), ∃ R ∈ F'.filter (fun Q => !F.contains Q), Ins Q R := by
  have u : Under F F' := h.fine F' h'.fam fun Q hQ => h'.under Q ((e Q).mpr (.inl hQ))
  refine ⟨?_, gone_in hT h.fam u⟩
  obtain ⟨A, hA, iA⟩ := h'.under P ((e P).mpr (.inr rfl))
  -- what stood and does not lie in A, and A
  have key : ∀ B ∈ F', B ≠ A → B ∈ F := fun B hB ne => by
    have hfam : Fam T r (A :: F.filter fun Q => decide (¬ Ins Q A)) := by
      refine ⟨fun Q hQ => ?_, fun Q hQ R hR nq => ?_⟩
      · rcases List.mem_cons.mp hQ with e | hQ
        · rw [e]; exact h'.fam.1 A hA
        · exact h.fam.1 Q (List.mem_filter.mp hQ).1
      · have out : ∀ Q ∈ F.filter (fun Q => decide (¬ Ins Q A)), r < far T Q A := fun Q hQ => by
          obtain ⟨q1, q2⟩ := List.mem_filter.mp hQ
          obtain ⟨C, hC, iC⟩ := u Q q1
          have nC : C ≠ A := fun z => of_decide_eq_true q2 (z ▸ iC)
          exact Nat.lt_of_lt_of_le (h'.fam.2 C hC A hA nC) (far_mono (h.fam.1 Q q1) (h'.fam.1 C hC) (h'.fam.1 A hA) (h'.fam.1 A hA) iC (ins_refl A))
        rcases List.mem_cons.mp hQ with e1 | hQ
        · rcases List.mem_cons.mp hR with e2 | hR
          · exact absurd (e1.trans e2.symm) nq
          · rw [e1, far_comm hT (h'.fam.1 A hA) (h.fam.1 R (List.mem_filter.mp hR).1)]
            exact out R hR
        · rcases List.mem_cons.mp hR with e2 | hR
          · rw [e2]
            exact out Q hQ
          · exact h.fam.2 Q (List.mem_filter.mp hQ).1 R (List.mem_filter.mp hR).1 nq
    have hund : Under Ps' (A :: F.filter fun Q => decide (¬ Ins Q A)) := fun Q hQ => by
      rcases (e Q).mp hQ with hQ | hQ
      · obtain ⟨R, hR, i⟩ := h.under Q hQ
        by_cases z : Ins R A
        · exact ⟨A, List.mem_cons_self, ins_trans i z⟩
        · exact ⟨R, List.mem_cons_of_mem _ (List.mem_filter.mpr ⟨hR, decide_eq_true z⟩), i⟩
      · exact ⟨A, List.mem_cons_self, hQ ▸ iA⟩
    obtain ⟨C, hC, iC⟩ := h'.fine _ hfam hund B hB
    rcases List.mem_cons.mp hC with e1 | hC
    · rw [e1] at iC
      exact absurd (h'.fam.one hT hB hA iC) ne
    · have hCF := (List.mem_filter.mp hC).1
      obtain ⟨D, hD, iD⟩ := u C hCF
      have e2 := h'.fam.one hT hB hD (ins_trans iC iD)
      rw [← e2] at iD
      rw [ins_anti (h'.fam.1 B hB) (h.fam.1 C hCF) iC iD]
      exact hCF
  refine len_two (h'.nd.filter _) fun B hB C hC => ?_
  have one : ∀ B ∈ F'.filter (fun Q => !F.contains Q), B = A := fun B hB => Classical.byContradiction fun ne => by
    obtain ⟨b1, b2⟩ := List.mem_filter.mp hB
    have q : F.contains B = true := by simpa using key B b1 ne
    rw [q] at b2
    cases b2
  rw [one B hB, one C hC]
/-- ahead without what went, and what came, sorted: what stands -/
theorem change_law (h : IsStand T r Ps F) (h' : IsStand T r' Ps' F') :
    srt ((F.filter fun P => !(F.filter fun P => !F'.contains P).contains P) ++ F'.filter fun P => !F.contains P) = F' := by
  rw [h'.srt]
  refine srt_eq ?_
  rw [← h'.srt]
  refine perm_of_mem ?_ h'.nd fun P => ?_
  · refine List.nodup_append.mpr ⟨h.nd.filter _, h'.nd.filter _, fun P hP Q hQ e => ?_⟩
    subst e
    have h1 := (List.mem_filter.mp hP).1
    have h2 := (List.mem_filter.mp hQ).2
    have q : F.contains P = true := by simpa using h1
    rw [q] at h2
    cases h2
  · simp only [List.mem_append, List.mem_filter, List.contains_eq_mem, Bool.not_eq_true', decide_eq_false_iff_not, not_and, Classical.not_not]
    constructor
    · rintro (⟨a, b⟩ | ⟨a, b⟩)
      · exact b a
      · exact a
    · intro q
      by_cases z : P ∈ F
      · exact .inl ⟨z, fun _ => q⟩
      · exact .inr ⟨q, z⟩
end
end J

set_option Elab.async false
set_option linter.all false
set_option maxRecDepth 100000
set_option maxHeartbeats 4000000
/-! JF: what stays (Ex, Kp), data, comprehensions in one lemma, a def from its body. -/
namespace J
open PySem PySem.Spec PyProof.Rows L2
/-! ### frames -/
def Fixd : HO → Prop
  | .tup _ => True
  | .frz _ _ => True
  | _ => False
/-- all stays -/
def Ex (H H' : Hp) : Prop := ∀ a o, H a = some o → H' a = some o
/-- all stays but what S tells; tuples stay at all events -/
def Kp (S : Addr → Prop) (H H' : Hp) : Prop := ∀ a o, H a = some o → (S a → Fixd o) → H' a = some o
section
variable {S S' : Addr → Prop} {H H1 H2 H' : Hp} {p : Addr} {o : HO}
theorem Ex.refl : Ex H H := fun _ _ h => h
theorem Ex.trans (h : Ex H H1) (h' : Ex H1 H2) : Ex H H2 := fun a o q => h' a o (h a o q)
theorem Ex.new (h : Ex H H1) (n : H1 p = none) : Ex H (upd H1 p o) := fun a u q => by
  rw [upd_ne (ne_of_none (h a u q) n)]
  exact h a u q
theorem Ex.loc (h : Ex H H1) (n : H p = none) : Ex H (upd H1 p o) := fun a u q => by
  rw [upd_ne (ne_of_none q n)]
  exact h a u q
theorem Ex.one (n : H p = none) : Ex H (upd H p o) := Ex.refl.new n
theorem Ex.kp (h : Ex H H') : Kp S H H' := fun a o q _ => h a o q
theorem Ex.nn (h : Ex H H1) (n : H1 p = none) : H p = none := by
  cases q : H p with
  | none => rfl
  | some u => rw [h p u q] at n; cases n
theorem Kp.refl : Kp S H H := fun _ _ h _ => h
theorem Kp.trans (h : Kp S H H1) (h' : Kp S H1 H2) : Kp S H H2 := fun a o q f => h' a o (h a o q f) f
theorem Kp.new (h : Kp S H H1) (n : H1 p = none) : Kp S H (upd H1 p o) := fun a u q f => by
  rw [upd_ne (ne_of_none (h a u q f) n)]
  exact h a u q f
theorem Kp.loc (h : Kp S H H1) (n : H p = none) : Kp S H (upd H1 p o) := fun a u q f => by
  rw [upd_ne (ne_of_none q n)]
  exact h a u q f
theorem Kp.put (h : Kp S H H1) (s : S p) (n : ∀ u, H p = some u → ¬ Fixd u) : Kp S H (upd H1 p o) := fun a u q f => by
  have ne : a ≠ p := fun e => by
    subst e
    exact n u q (f s)
  rw [upd_ne ne]
  exact h a u q f
theorem Kp.mono (h : Kp S H H') (m : ∀ a, S a → S' a) : Kp S' H H' := fun a o q f => h a o q fun s => f (m a s)
theorem Kp.ex (h : Kp (fun _ => False) H H') : Ex H H' := fun a o q => h a o q fun z => z.elim
theorem Kp.tup (h : Kp S H H') {xs : List V} (q : H p = some (.tup xs)) : H' p = some (.tup xs) := h p _ q fun _ => trivial
end
section
variable {K : PySem.W.Frag} {S : Addr → Prop} {H H' : Hp} {a : Addr} {xs : List V}
theorem sqT_kp (k : Kp S H H') (h : SqT K H a xs) : SqT K H' a xs := by
  rcases h with (h | ⟨o, h⟩) | h
  · exact .inl (.inl (k a _ h fun _ => trivial))
  · exact .inl (.inr ⟨o, k a _ h fun _ => trivial⟩)
  · exact .inr h
theorem sqL_kp (k : Kp S H H') (n : ¬ S a) (h : SqL K H a xs) : SqL K H' a xs := by
  rcases h with (h | ⟨o, h⟩) | h
  · exact .inl (.inl (k a _ h fun z => (n z).elim))
  · exact .inl (.inr ⟨o, k a _ h fun _ => trivial⟩)
  · exact .inr h
theorem sqT_ex (k : Ex H H') (h : SqT K H a xs) : SqT K H' a xs := sqT_kp (S := fun _ => False) k.kp h
theorem sqL_ex (k : Ex H H') (h : SqL K H a xs) : SqL K H' a xs := sqL_kp (S := fun _ => False) k.kp (fun z => z) h
theorem sqB_ex {t : Bool} (k : Ex H H') (h : SqB K H t a xs) : SqB K H' t a xs := by
  cases t with
  | true => exact sqT_ex k h
  | false => exact sqL_ex k h
/-! no list within -/
mutual
def flatD : PyData → Bool
  | .none => true
  | .bool _ => true
  | .int _ => true
  | .str _ => true
  | .tuple ds => flatDs ds
  | _ => false
def flatDs : List PyData → Bool
  | [] => true
  | d :: ds => flatD d && flatDs ds
end
mutual
theorem dp_kp (k : Kp S H H') : ∀ (d : PyData) (v : V), flatD d = true → Dp K H v d → Dp K H' v d
  | .none, _, _, h => by
    cases h
    exact .non
  | .bool _, _, _, h => by
    cases h
    exact .bl _
  | .int _, _, _, h => by
    cases h
    exact .int _
  | .str _, _, _, h => by
    cases h
    exact .str _
  | .tuple ds, _, f, h => by
    cases h with
    | tup hs ha => exact .tup (sqT_kp k hs) (dpAll_kp k ds _ f ha)
  | .list _, _, f, _ => by cases f
  | .dict _, _, f, _ => by cases f
theorem dpAll_kp (k : Kp S H H') : ∀ (ds : List PyData) (vs : List V), flatDs ds = true → DpAll K H vs ds → DpAll K H' vs ds
  | [], _, _, h => by
    cases h
    exact .nil
  | d :: ds, _, f, h => by
    have f' : (flatD d && flatDs ds) = true := f
    rw [Bool.and_eq_true] at f'
    cases h with
    | cons h1 h2 => exact .cons (dp_kp k d _ f'.1 h1) (dpAll_kp k ds _ f'.2 h2)
end
mutual
theorem dp_ex (k : Ex H H') : ∀ (d : PyData) (v : V), Dp K H v d → Dp K H' v d
  | .none, _, h => by
    cases h
    exact .non
  | .bool _, _, h => by
    cases h
    exact .bl _
  | .int _, _, h => by
    cases h
    exact .int _
  | .str _, _, h => by
    cases h
    exact .str _
  | .tuple ds, _, h => by
    cases h with
    | tup hs ha => exact .tup (sqT_ex k hs) (dpAll_ex k ds _ ha)
  | .list ds, _, h => by
    cases h with
    | lst hs ha => exact .lst (sqL_ex k hs) (dpAll_ex k ds _ ha)
  | .dict _, _, h => by cases h
theorem dpAll_ex (k : Ex H H') : ∀ (ds : List PyData) (vs : List V), DpAll K H vs ds → DpAll K H' vs ds
  | [], _, h => by
    cases h
    exact .nil
  | d :: ds, _, h => by
    cases h with
    | cons h1 h2 => exact .cons (dp_ex k d _ h1) (dpAll_ex k ds _ h2)
end
end
/-! ### the shapes of data -/
abbrev nI (n : Nat) : V := .int (n : Int)
section
variable {K : PySem.W.Frag} {H : Hp} {v : V}
theorem dpAll_ints : ∀ {ns : List Nat} {xs : List V}, DpAll K H xs (ns.map fun n : Nat => PyData.int (n : Int)) → xs = ns.map nI
  | [], _, h => by
    cases h
    rfl
  | n :: ns, _, h => by
    cases h with
    | cons h1 h2 =>
      cases h1
      rw [dpAll_ints h2]
      rfl
theorem dpAll_ofInts : ∀ ns : List Nat, DpAll K H (ns.map nI) (ns.map fun n : Nat => PyData.int (n : Int))
  | [] => .nil
  | n :: ns => .cons (.int _) (dpAll_ofInts ns)
theorem dp_B {b : List Nat} (h : Dp K H v (encB b)) : ∃ a, v = .ref a ∧ SqT K H a (b.map nI) := by
  cases h with
  | tup hs ha =>
    rw [dpAll_ints ha] at hs
    exact ⟨_, rfl, hs⟩
theorem B_dp {b : List Nat} {a : Addr} (h : SqT K H a (b.map nI)) : Dp K H (.ref a) (encB b) := .tup h (dpAll_ofInts b)
theorem dp_T {ds : List PyData} (h : Dp K H v (.tuple ds)) : ∃ a xs, v = .ref a ∧ SqT K H a xs ∧ DpAll K H xs ds := by
  cases h with
  | tup hs ha => exact ⟨_, _, rfl, hs, ha⟩
theorem dp_L {ds : List PyData} (h : Dp K H v (.list ds)) : ∃ a xs, v = .ref a ∧ SqL K H a xs ∧ DpAll K H xs ds := by
  cases h with
  | lst hs ha => exact ⟨_, _, rfl, hs, ha⟩
theorem flat_ints : ∀ ns : List Nat, flatDs (ns.map fun n : Nat => PyData.int (n : Int)) = true
  | [] => rfl
  | n :: ns => by
    show (flatD (.int n) && flatDs _) = true
    rw [flat_ints ns]
    rfl
theorem flat_B (b : List Nat) : flatD (encB b) = true := flat_ints b
theorem flat_Bs : ∀ P : List (List Nat), flatDs (P.map encB) = true
  | [] => rfl
  | b :: P => by
    show (flatD (encB b) && flatDs (P.map encB)) = true
    rw [flat_B, flat_Bs P]
    rfl
theorem flat_P (P : Part) : flatD (encP P) = true := flat_Bs P
theorem flat_Ps : ∀ F : List Part, flatDs (F.map encP) = true
  | [] => rfl
  | P :: F => by
    show (flatD (encP P) && flatDs (F.map encP)) = true
    rw [flat_P, flat_Ps F]
    rfl
end
/-! ### shaped -/
theorem lay_ints : ∀ ns : List Nat, PyData.canLayAll0 (ns.map fun n : Nat => PyData.int (n : Int)) = true
  | [] => by simp [PyData.canLayAll0]
  | n :: ns => by simp [PyData.canLayAll0, PyData.canLay0, lay_ints ns]
theorem lay_Bs : ∀ P : List (List Nat), PyData.canLayAll0 (P.map encB) = true
  | [] => by simp [PyData.canLayAll0]
  | b :: P => by simp [PyData.canLayAll0, PyData.canLay0, encB, lay_ints b, lay_Bs P]
theorem lay_Ps : ∀ F : List Part, PyData.canLayAll0 (F.map encP) = true
  | [] => by simp [PyData.canLayAll0]
  | P :: F => by simp [PyData.canLayAll0, PyData.canLay0, encP, lay_Bs P, lay_Ps F]
theorem depth_Ps : ∀ F : List Part, PyData.depthAll (F.map encP) ≤ 2
  | [] => by simp [PyData.depthAll]
  | P :: F => by
    have h1 := depth_Ps F
    have h2 := encP_depth P
    simp only [List.map_cons, PyData.depthAll]
    omega
theorem shaped_of {d : PyData} (h1 : d.canLay0 = true) (h2 : d.depth ≤ 64) : SeqAt.shaped d = true := by
  show (d.canLay0 && decide (d.depth ≤ 64)) = true
  rw [h1, decide_eq_true h2]
  rfl
theorem shaped_B (b : List Nat) : SeqAt.shaped (encB b) = true := shaped_of (by simp only [encB, PyData.canLay0]; exact lay_ints b) (by have := encB_depth b; omega)
theorem shaped_P (P : Part) : SeqAt.shaped (encP P) = true := shaped_of (by simp only [encP, PyData.canLay0]; exact lay_Bs P) (by have := encP_depth P; omega)
theorem shaped_F (F : List Part) : SeqAt.shaped (.tuple (F.map encP)) = true := shaped_of (by simp only [PyData.canLay0]; exact lay_Ps F) (by have := depth_Ps F; simp only [PyData.depth]; omega)
theorem shaped_FL (F : List Part) : SeqAt.shaped (.list (F.map encP)) = true := shaped_of (by simp only [PyData.canLay0]; exact lay_Ps F) (by have := depth_Ps F; simp only [PyData.depth]; omega)
theorem any_P (F : List Part) (P : Part) : ((F.map encP).any fun z => PyData.eqv z (encP P)) = F.contains P := by
  induction F with
  | nil => rfl
  | cons Q F ih =>
    rw [List.map_cons, List.any_cons, List.contains_cons, ih, eqv_encP]
    congr 1
    by_cases h : P = Q
    · subst h
      simp
    · rw [decide_eq_false fun e => h e.symm]
      exact (beq_eq_false_iff_ne.mpr h).symm

/-! ### a comprehension -/
theorem pairedApp {α β : Type} {R : α → β → Prop} : ∀ {xs : List α} {ys : List β} {us : List α} {vs : List β}, Paired R xs ys → Paired R us vs → Paired R (xs ++ us) (ys ++ vs)
  | _, _, _, _, .nil, s => s
  | _, _, _, _, .cons r t, s => .cons r (pairedApp t s)
/-- turn by turn; f i: what turn i gives (none: the test fails), R: how it stands in the heap; E: what more holds; the heap is kept but for S -/
theorem lcS {J : It} {n : Nat} {G : Hp → Prop} {Y : Nat → Hp → V → Hp → Prop} (w : Walk J n G Y) {g : TG} {tt : TT} {te : TE} {vs : List Nat} {σ : L2.St} {H1 : Hp} {D : Addr} {Qd : Hp → Prop} (S : Addr → Prop) (E : Hp → Prop) {α : Type} (f : Nat → Option α) (R : α → V → Hp → Prop)
    (hn : n ≤ 1000) (hD : H1 D = none) (hS : ¬ S D) (hE : E (upd H1 D (.lst []))) (ED : ∀ H zs ys, E H → H D = some (.lst zs) → E (upd H D (.lst ys))) (hG : ∀ H, Kp S H1 H → E H → G H)
    (RD : ∀ a v H H', (∀ b o, H b = some o → (S b ∨ b = D → Fixd o) → H' b = some o) → R a v H → R a v H')
    (hs : ∀ i x H H' (QF : Hp → Prop) (QT : V → Hp → Prop), i < n → Kp S H1 H → E H → (∃ ys, H D = some (.lst ys)) → Y i H x H' → (f i = none → ∀ H3, Kp S H H3 → E H3 → QF H3) → (∀ a, f i = some a → ∀ y H4, Kp S H H4 → E H4 → R a y H4 → QT y H4) →
      g x (wipe σ vs) H' fun σ2 H2 => wipe σ2 vs = wipe σ vs ∧ tt σ2 H2 fun b H3 => if b = true then te σ2 H3 QT else QF H3)
    (hd : ∀ H ys, Kp S H1 H → E H → H D = some (.lst ys) → Paired (fun a v => R a v H) ((List.range n).filterMap f) ys → Qd H) :
    Goes J (upd H1 D (.lst [])) Qd fun N x H2 => g x (wipe σ vs) H2 fun σ3 H3 => wipe σ3 vs = wipe σ vs ∧ tt σ3 H3 fun c H4 => if c = true then te σ3 H4 (fun y H5 => ∃ l, H5 D = some (.lst l) ∧ l.length < sizeLine ∧ N (upd H5 D (.lst (l ++ [y])))) else N H4 := by
  have nofix : ∀ ys, ¬ Fixd (.lst ys) := fun _ z => z
  refine lc_it w (fun i H => Kp S H1 H ∧ E H ∧ ∃ ys, H D = some (.lst ys) ∧ Paired (fun a v => R a v H) ((List.range i).filterMap f) ys) ⟨Kp.refl.new hD, hE, [], upd_same, .nil⟩ (fun i H _ p => hG H p.1 p.2.1) (fun i x H H' hi p y => ?_) fun H p => ?_
  · obtain ⟨k, e, ys, hy, pr⟩ := p
    have hlen : ys.length ≤ i := by
      rw [← pr.length]
      exact Nat.le_trans (List.length_filterMap_le _ _) (by rw [List.length_range]; exact Nat.le_refl _)
    have stepP : ∀ {Hx : Hp}, (∀ b o, H b = some o → (S b ∨ b = D → Fixd o) → Hx b = some o) → Paired (fun a v => R a v Hx) ((List.range i).filterMap f) ys := fun kx => Paired.mapP pr fun a v r => RD a v H _ kx r
    refine hs i x H H' _ _ hi k e ⟨ys, hy⟩ y (fun hf H3 k3 e3 => ?_) fun a hf v H4 k4 e4 r4 => ?_
    · refine ⟨k.trans k3, e3, ys, k3 D _ hy fun z => (hS z).elim, ?_⟩
      rw [List.range_succ, List.filterMap_append, List.filterMap_cons_none hf, List.filterMap_nil, List.append_nil]
      exact stepP fun b o q fx => k3 b o q fun z => fx (.inl z)
    · have h4 : H4 D = some (.lst ys) := k4 D _ hy fun z => (hS z).elim
      refine ⟨ys, h4, Nat.lt_of_le_of_lt hlen (Nat.lt_of_lt_of_le (Nat.lt_of_lt_of_le hi hn) (by rw [sizeLine_eq]; decide)), (k.trans k4).loc hD, ED H4 ys _ e4 h4, ys ++ [v], upd_same, ?_⟩
      have kD : ∀ b o, H4 b = some o → (S b ∨ b = D → Fixd o) → upd H4 D (.lst (ys ++ [v])) b = some o := fun b o q fx => by
        have ne : b ≠ D := fun z => by
          subst z
          rw [h4] at q
          cases q
          exact nofix _ (fx (.inr rfl))
        rw [upd_ne ne]
        exact q
      rw [List.range_succ, List.filterMap_append, List.filterMap_cons_some hf, List.filterMap_nil]
      refine pairedApp (stepP fun b o q fx => kD b o (k4 b o q fun z => fx (.inl z)) fx) (.cons (RD a v H4 _ kD r4) .nil)
  · obtain ⟨k, e, ys, hy, pr⟩ := p
    exact hd H ys k e hy pr
/-- .. that changes nothing -/
theorem lcE {J : It} {n : Nat} {G : Hp → Prop} {Y : Nat → Hp → V → Hp → Prop} (w : Walk J n G Y) {g : TG} {tt : TT} {te : TE} {vs : List Nat} {σ : L2.St} {H1 : Hp} {D : Addr} {Qd : Hp → Prop} {α : Type} (f : Nat → Option α) (R : α → V → Hp → Prop)
    (hn : n ≤ 1000) (hD : H1 D = none) (hG : ∀ H, Ex H1 H → G H) (RD : ∀ a v H H', (∀ b o, H b = some o → (b = D → Fixd o) → H' b = some o) → R a v H → R a v H')
    (hs : ∀ i x H H' (QF : Hp → Prop) (QT : V → Hp → Prop), i < n → Ex H1 H → (∃ ys, H D = some (.lst ys)) → Y i H x H' → (f i = none → ∀ H3, Ex H H3 → QF H3) → (∀ a, f i = some a → ∀ y H4, Ex H H4 → R a y H4 → QT y H4) →
      g x (wipe σ vs) H' fun σ2 H2 => wipe σ2 vs = wipe σ vs ∧ tt σ2 H2 fun b H3 => if b = true then te σ2 H3 QT else QF H3)
    (hd : ∀ H ys, Ex H1 H → H D = some (.lst ys) → Paired (fun a v => R a v H) ((List.range n).filterMap f) ys → Qd H) :
    Goes J (upd H1 D (.lst [])) Qd fun N x H2 => g x (wipe σ vs) H2 fun σ3 H3 => wipe σ3 vs = wipe σ vs ∧ tt σ3 H3 fun c H4 => if c = true then te σ3 H4 (fun y H5 => ∃ l, H5 D = some (.lst l) ∧ l.length < sizeLine ∧ N (upd H5 D (.lst (l ++ [y])))) else N H4 :=
  lcS w (fun _ => False) (fun _ => True) f R hn hD (fun z => z) trivial (fun _ _ _ _ _ => trivial) (fun H k _ => hG H k.ex) (fun a v H H' k r => RD a v H H' (fun b o q fx => k b o q fun z => fx (z.resolve_left fun z => z)) r)
    (fun i x H H' QF QT hi k _ hy y q1 q2 => hs i x H H' QF QT hi k.ex hy y (fun e H3 k3 => q1 e H3 k3.kp trivial) fun a e v H4 k4 r4 => q2 a e v H4 k4.kp trivial r4) fun H ys k _ hy pr => hd H ys k.ex hy pr

/-! ### a def of the text -/
abbrev FnP (K : PySem.W.Frag) (x : Str) (st : Stmt) (f : Addr) (fd : FuncData) : Prop := FunD K x x (defArgs st) (defBody st) (defScope st) [] [] f fd
abbrev Cal (P : Program) (w : World) (K : PySem.W.Frag) (mg : Str → Option Value) (base : Heap) (k : Nat) (x : Str) (sp : Sp) : Prop := C8.Cal P w K mg base k x sp []
section
variable {P : Program} {w : World} {K : PySem.W.Frag} {mg : Str → Option Value} {base : Heap}
theorem fnOk_of {x qual : Str} {st : Stmt} {kws : List (Str × V)} {f : Addr} {fd : FuncData} {N ps : List Str} {k : Nat} {sp : Sp} (F : FunD K x qual (defArgs st) (defBody st) (defScope st) [] kws f fd) (S : FnScope N ps (defScope st)) (len : ∀ vs H Q E, sp vs H Q E → vs.length = ps.length)
    (hbody : ∀ (cdv : Value) (A : Around) (outer : List Env) (s : Shared) (H : Hp) (vs : List V) (Q : VK) (E : XK), PySem.W.kdsCode K cdv = true → Room k (A.deeper (envOfC qual (defScope st) s.heap.objs.size f cdv)) → sp vs H Q E →
      ∃ t, PSs (cxOf L2.CX0 P w K mg base N qual (defScope st) f cdv A outer s H E).nox (defBody st) t ∧ t { nx := fun _ H' => Q .non H', rt := Q } (start N vs) H) : FnOk P w K mg base L2.CX0 (k + 1) f fd ps sp := by
  obtain ⟨oc, od, dV, kV, doc, pm, an, cdv, ct, osl, rfl, lk, hcd, _, _⟩ := F.ex
  refine fn_of lk hcd S len fun A outer s H vs Q E hr hsp => ?_
  obtain ⟨t, h, q⟩ := hbody cdv A outer s H vs Q E (kdsCode_of hcd) hr hsp
  exact ⟨t, h.nox, q⟩
theorem mkCal {x : Str} {st : Stmt} {f : Addr} {fd : FuncData} {N ps : List Str} {k : Nat} {sp : Sp} (F : FnP K x st f fd) (g : mg x = some (.ref f)) (b : Binds K fd ps []) (S : FnScope N ps (defScope st)) (len : ∀ vs H Q E, sp vs H Q E → vs.length = ps.length)
    (hbody : ∀ (cdv : Value) (A : Around) (outer : List Env) (s : Shared) (H : Hp) (vs : List V) (Q : VK) (E : XK), PySem.W.kdsCode K cdv = true → Room k (A.deeper (envOfC x (defScope st) s.heap.objs.size f cdv)) → sp vs H Q E →
      ∃ t, PSs (cxOf L2.CX0 P w K mg base N x (defScope st) f cdv A outer s H E).nox (defBody st) t ∧ t { nx := fun _ H' => Q .non H', rt := Q } (start N vs) H) : Cal P w K mg base (k + 1) x sp :=
  ⟨f, fd, ps, [], fnOk_of F S len hbody, g, F.kp, b, .nil⟩
end
/-- what the names of the top hold -/
structure Txt (mg : Str → Option Value) : Prop where
  isi : mg "isinstance" = none
  int : mg "int" = none
  bool : mg "bool" = none
  str : mg "str" = none
  tuple : mg "tuple" = none
  len : mg "len" = none
  all : mg "all" = none
  enum : mg "enumerate" = none
  list : mg "list" = none
  range : mg "range" = none
  sorted : mg "sorted" = none
  set : mg "set" = none
  min : mg "min" = none
  max : mg "max" = none
  any : mg "any" = none
  zip : mg "zip" = none
  dict : mg "dict" = none
  kREACH : ∃ u, mg "REACH" = some u ∧ RelV (.int 1) u
  kMOST_REACH : ∃ u, mg "MOST_REACH" = some u ∧ RelV (.int 48) u
  kMOST_PLACES : ∃ u, mg "MOST_PLACES" = some u ∧ RelV (.int 12) u
  kMOST_TREES : ∃ u, mg "MOST_TREES" = some u ∧ RelV (.int 4) u
  kMOST_NAMES : ∃ u, mg "MOST_NAMES" = some u ∧ RelV (.int 24) u
  kMOST_SIGNS : ∃ u, mg "MOST_SIGNS" = some u ∧ RelV (.int 8) u
  kSIGNS : ∃ u, mg "SIGNS" = some u ∧ RelV (.str "abcdefghijklmnopqrstuvwxyz") u
theorem bt_isi : bootBuiltins ("isinstance" : Str) = some (.builtin "isinstance") := by decide +kernel
theorem bt_len : bootBuiltins ("len" : Str) = some (.builtin "len") := by decide +kernel
theorem bt_all : bootBuiltins ("all" : Str) = some (.builtin "all") := by decide +kernel
theorem bt_any : bootBuiltins ("any" : Str) = some (.builtin "any") := by decide +kernel
theorem bt_sorted : bootBuiltins ("sorted" : Str) = some (.builtin "sorted") := by decide +kernel
theorem bt_min : bootBuiltins ("min" : Str) = some (.builtin "min") := by decide +kernel
theorem bt_max : bootBuiltins ("max" : Str) = some (.builtin "max") := by decide +kernel
theorem bt_int : bootBuiltins ("int" : Str) = some (.type "int") := by decide +kernel
theorem bt_bool : bootBuiltins ("bool" : Str) = some (.type "bool") := by decide +kernel
theorem bt_str : bootBuiltins ("str" : Str) = some (.type "str") := by decide +kernel
theorem bt_tuple : bootBuiltins ("tuple" : Str) = some (.type "tuple") := by decide +kernel
theorem bt_list : bootBuiltins ("list" : Str) = some (.type "list") := by decide +kernel
theorem bt_set : bootBuiltins ("set" : Str) = some (.type "set") := by decide +kernel
theorem bt_dict : bootBuiltins ("dict" : Str) = some (.type "dict") := by decide +kernel
end J

set_option Elab.async false
set_option linter.all false
set_option maxRecDepth 100000
set_option maxHeartbeats 4000000
/-! JK: the rules with the written part K by name (within a comprehension it must be told). -/
namespace J
open PySem PySem.Spec PyProof.Rows L2
section
variable {X : Cx} {K : PySem.W.Frag}
theorem k_in_seq (hK : X.K = K := by rfl) : OpR X (compareOp .In) (rIn K false) := hK ▸ op_in_seq
theorem k_notIn_seq (hK : X.K = K := by rfl) : OpR X (compareOp .NotIn) (rIn K true) := hK ▸ op_notIn_seq
theorem k_inD (hu : X.A.units + 65 < cLine) (hK : X.K = K := by rfl) : OpR X (compareOp .In) (rInD K) := hK ▸ op_inD hu
theorem k_notInD (hu : X.A.units + 65 < cLine) (hK : X.K = K := by rfl) : OpR X (compareOp .NotIn) (rNotInD K) := hK ▸ op_notInD hu
theorem k_inT (hu : X.A.units + 65 < cLine) (hK : X.K = K := by rfl) : OpR X (compareOp .In) (rInT K false) := hK ▸ op_inT hu
theorem k_notInT (hu : X.A.units + 65 < cLine) (hK : X.K = K := by rfl) : OpR X (compareOp .NotIn) (rInT K true) := hK ▸ op_notInT hu
theorem k_eqD (hu : X.A.units + 64 < cLine) (hK : X.K = K := by rfl) : OpR X (compareOp .Eq) (rEqD K) := hK ▸ op_eqD hu
theorem k_neD (hu : X.A.units + 64 < cLine) (hK : X.K = K := by rfl) : OpR X (compareOp .NotEq) (rNeD K) := hK ▸ op_neD hu
theorem k_eqE (hu : X.A.units < cLine) (hK : X.K = K := by rfl) : OpR X (compareOp .Eq) (rEqE K false) := hK ▸ op_eqE hu
theorem k_neE (hu : X.A.units < cLine) (hK : X.K = K := by rfl) : OpR X (compareOp .NotEq) (rEqE K true) := hK ▸ op_neE hu
theorem k_ixL (hK : X.K = K := by rfl) : IxR X (rIxL K) := hK ▸ ix_list
theorem k_ixT (hK : X.K = K := by rfl) : IxR X (rIxT K) := hK ▸ ix_tup
theorem k_slL (hK : X.K = K := by rfl) : SlR X (rSlL K) := hK ▸ sl_list
theorem k_slT (hK : X.K = K := by rfl) : SlR X (rSlA K) := hK ▸ sl_tupA
theorem k_catA (hK : X.K = K := by rfl) : OpR X (binaryOp .Add) (rCatA K) := hK ▸ op_catA
def rLen (K : PySem.W.Frag) : List V → Hp → VK → Prop := fun xs H Q => ∃ p ys, xs = [.ref p] ∧ (SqL K H p ys ∨ SqT K H p ys) ∧ Q (.int ys.length) H
theorem k_len (hK : X.K = K := by rfl) : CallR X (.builtin "len") (rLen K) := hK ▸ call_len_seq
theorem k_isi (hK : X.K = K := by rfl) : CallR X (.builtin "isinstance") (rIsi K) := hK ▸ call_isi
theorem k_all (hc : X.calm = true) (hK : X.K = K := by rfl) : CallR X (.builtin "all") (rAll K) := hK ▸ cr_all hc
theorem k_any (hc : X.calm = true) (hK : X.K = K := by rfl) : CallR X (.builtin "any") (rAny K) := hK ▸ cr_any hc
def rTupOf (K : PySem.W.Frag) : List V → Hp → VK → Prop := fun xs H Q => ∃ p ys, xs = [.ref p] ∧ ((SqL K H p ys ∧ ∀ l, H l = none → Q (.ref l) (upd H l (.tup ys))) ∨ (SqT K H p ys ∧ Q (.ref p) H))
theorem k_tuple (hK : X.K = K := by rfl) : CallR X (.type "tuple") (rTupOf K) := hK ▸ call_tuple_of
def rLstOf (K : PySem.W.Frag) : List V → Hp → VK → Prop := fun xs H Q => ∃ p ys, xs = [.ref p] ∧ (SqL K H p ys ∨ SqT K H p ys) ∧ ∀ l, H l = none → Q (.ref l) (upd H l (.lst ys))
theorem k_list (hK : X.K = K := by rfl) : CallR X (.type "list") (rLstOf K) := hK ▸ call_list_of
theorem k_setI (hc : X.calm = true) (hK : X.K = K := by rfl) : CallR X (.type "set") (rSetI K X.w) := hK ▸ call_setI hc
theorem k_min3 (hc : X.calm = true) (hu : X.A.units + 65 < cLine) (hK : X.K = K := by rfl) : CallR X (.builtin "min") (rMin3 K) := hK ▸ call_min3 hc hu
theorem k_sortP (hu : X.A.units + 65 < cLine) (hK : X.K = K := by rfl) : CallR X (.builtin "sorted") (rSortP K) := hK ▸ call_sortP hu
theorem k_index (hK : X.K = K := by rfl) : MtR X "list.index" (rIndex K) := hK ▸ mt_index
theorem kpi_list {tg l : Expr} {tl : TE} (hl : PE X l tl) (hK : X.K = K := by rfl) : PI X tg l (iList K tl) := hK ▸ pi_list hl
theorem kpi_tup {tg l : Expr} {tl : TE} (hl : PE X l tl) (hK : X.K = K := by rfl) : PI X tg l (iTup K tl) := hK ▸ pi_tup hl
theorem kpe_fld {e : Expr} {f : Str} {pos : Pos} {ta : TE} (he : PE X e ta) (hb : attributeBase e f X.env (eval e X.env) = eval e X.env) (hK : X.K = K := by rfl) : PE X (.Attribute e f pos) (tFld K ta f) := hK ▸ pe_fld he hb
theorem kpe_revL {e : Expr} {te : TE} {k : Nat} {p1 p2 p3 pos : Pos} (he : PE X e te) (hK : X.K = K := by rfl) : PE X (.Subscript e (.Slice none none (some (.UnaryOp .USub (.Constant (.int 1) k p1) p2)) p3) pos) (tRevL K te) := hK ▸ pe_revL he
end
section
variable {X : Cx} {K : PySem.W.Frag} {o e : Expr} {es : List Expr} {to : TE} {t : TA} {name : Str} {apos cpos : Pos} {T id : String} {r : V → List V → Hp → VK → Prop}
theorem kpe_bm0 (pa : PlainAttrs T) (slot : Slot T name id) (hty : typeOf (.builtin id) = pure (.type "method_descriptor")) (hm : MtR X id r) (ho : PE X o to)
    (hbase : attributeBase o name X.env (eval o X.env) = eval o X.env := by rfl) (hline : (apos.endLine == cpos.line) = true := by rfl) (hK : X.K = K := by rfl) : PE X (.Call (.Attribute o name apos) [] [] cpos) (tBM0 K T r to) := hK ▸ pe_bm0 pa slot hty hm ho hbase hline
theorem hu1_of {A : Around} {k : Nat} (hr : Room k A) : A.units < cLine := Nat.lt_of_le_of_lt (by omega : A.units ≤ A.units + 16 * k + 200) hr.un
theorem hu64_of {A : Around} {k : Nat} (hr : Room k A) : A.units + 64 < cLine := Nat.lt_of_le_of_lt (by omega : A.units + 64 ≤ A.units + 16 * k + 200) hr.un
theorem hu65_of {A : Around} {k : Nat} (hr : Room k A) : A.units + 65 < cLine := Nat.lt_of_le_of_lt (by omega : A.units + 65 ≤ A.units + 16 * k + 200) hr.un
end
end J

set_option Elab.async false
set_option linter.all false
set_option maxRecDepth 100000
set_option maxHeartbeats 4000000
/-! JA: is_whole, is_within, is_tree, downward, steps_between, gaps. -/
namespace J
open PySem PySem.Spec PyProof.Rows L2
section
variable {P : Program} {w : World} {K : PySem.W.Frag} {mg : Str → Option Value} {base : Heap} {f : Addr} {fd : FuncData}
theorem kit_ii {K : PySem.W.Frag} : PySem.W.kitOne K (.type "int") (.type "int") = some true := kit_ty (by decide +kernel)
theorem kit_ib {K : PySem.W.Frag} : PySem.W.kitOne K (.type "int") (.type "bool") = some false := kit_ty (by decide +kernel)
theorem kit_tt {K : PySem.W.Frag} : PySem.W.kitOne K (.type "tuple") (.type "tuple") = some true := kit_ty (by decide +kernel)
theorem kit_ss {K : PySem.W.Frag} : PySem.W.kitOne K (.type "str") (.type "str") = some true := kit_ty (by decide +kernel)
theorem tyX_int {H : Hp} {i : Int} : TyX K H (.int i) (.type "int") := .base (.int i)
theorem tyX_str {H : Hp} {x : Str} : TyX K H (.str x) (.type "str") := .base (.str x)
theorem tyX_tup {H : Hp} {a : Addr} {xs : List V} (h : SqT K H a xs) : TyX K H (.ref a) (.type "tuple") := by
  rcases h with (h | ⟨o, h⟩) | ⟨o, its, n, h, hc, _⟩
  · exact .base (.tup h)
  · exact .fTuple h
  · exact .kTuple h hc

theorem bT {p : Prop} [Decidable p] (h : p) : V.bl (decide p) = V.bl true := congrArg V.bl (decide_eq_true h)
theorem bF {p : Prop} [Decidable p] (h : ¬ p) : V.bl (decide p) = V.bl false := congrArg V.bl (decide_eq_false h)
theorem paired_all_true {α : Type} {Hh : Hp} : ∀ {xs : List α} {ys : List V}, Paired (fun (_ : α) (v : V) => v = .bl true) xs ys → ys = (List.replicate ys.length true).map V.bl
  | _, _, .nil => rfl
  | _, _, .cons h t => by
    subst h
    rw [List.length_cons, List.replicate_succ, List.map_cons, ← paired_all_true (Hh := Hh) t]
theorem nI_at {ns : List Nat} {i : Nat} {x : V} (h : (ns.map nI)[i]? = some x) : ∃ u, ns[i]? = some u ∧ x = nI u := by
  rw [List.getElem?_map] at h
  obtain ⟨u, hu, e⟩ := Option.map_eq_some_iff.mp h
  exact ⟨u, hu, e.symm⟩
theorem at_nI {ns : List Nat} {i u : Nat} (h : ns[i]? = some u) : (ns.map nI)[i]? = some (nI u) := by
  rw [List.getElem?_map, h]
  rfl
theorem flat_nI (ns : List Nat) : (ns.map nI).all flatV = true := by
  induction ns with
  | nil => rfl
  | cons n ns ih => rw [List.map_cons, List.all_cons, ih]; rfl
theorem eqV_nI (a b : Nat) : eqV (nI a) (nI b) = decide (a = b) := by
  show ((a : Int) == (b : Int)) = _
  by_cases h : a = b
  · subst h
    simp
  · rw [decide_eq_false h]
    exact beq_eq_false_iff_ne.mpr (by omega)
theorem inV_nI (a : Nat) (ns : List Nat) : inV (nI a) (ns.map nI) = ns.contains a := by
  unfold inV
  induction ns with
  | nil => rfl
  | cons n ns ih =>
    rw [List.map_cons, List.any_cons, List.contains_cons, ih, eqV_nI]
    congr 1
    by_cases h : n = a
    · subst h
      simp
    · rw [decide_eq_false h]
      exact (beq_eq_false_iff_ne.mpr fun e => h e.symm).symm
theorem snoc_last (pre : List Nat) (c : Nat) : atI ((pre ++ [c]).map nI) (-1) = some (nI c) := by
  rw [List.map_append]
  exact atI_last _ _
theorem all_rep (n : Nat) : (List.replicate n true).all id = true := by
  induction n with
  | zero => rfl
  | succ n ih => rw [List.replicate_succ, List.all_cons, ih]; rfl

abbrev N_is_whole : List Str := ["thing"]
theorem sc_is_whole : FnScope N_is_whole ["thing"] (defScope s_is_whole) := C8.fnScope_by (by decide +kernel)
def spWhole : Sp := fun vs H Q _ => ∃ i : Int, vs = [.int i] ∧ Q (.bl true) H
theorem ok_is_whole (T : Txt mg) (F : FnP K "is_whole" s_is_whole f fd) (g : mg "is_whole" = some (.ref f)) : Cal P w K mg base 1 "is_whole" spWhole := by
  have nd := sc_is_whole.nd
  refine mkCal F g (F.bindsN fun _ _ _ _ _ _ us hl => match us, hl with | [_], _ => rfl) sc_is_whole (fun vs H Q E ⟨_, h, _⟩ => by rw [h]; rfl) fun cdv A outer s H vs Q E hcd hr ⟨i, hv, hQ⟩ => ⟨_, (pss_one (ps_ret (pe_and (pe_callB (k_isi (K := K)) rfl T.isi bt_isi (pa_cons (pv 0) (pa_cons (pe_bltn (v := .ty "int") rfl T.int bt_int rfl) pa_nil))) (pe_one (pe_not (pe_callB (k_isi (K := K)) rfl T.isi bt_isi (pa_cons (pv 0) (pa_cons (pe_bltn (v := .ty "bool") rfl T.bool bt_bool rfl) pa_nil)))))))), ?_⟩
  subst hv
  refine ⟨_, rfl, _, _, _, _, true, rfl, .ty _, tyX_int, kit_ii, true, rfl, ?_⟩
  exact ⟨_, rfl, _, _, _, _, false, rfl, .ty _, tyX_int, kit_ib, false, rfl, hQ⟩

abbrev N_is_within : List Str := ["thing", "low", "high"]
theorem sc_is_within : FnScope N_is_within ["thing", "low", "high"] (defScope s_is_within) := C8.fnScope_by (by decide +kernel)
def spWithin : Sp := fun vs H Q _ => ∃ i lo hi : Int, vs = [.int i, .int lo, .int hi] ∧ lo ≤ i ∧ i ≤ hi ∧ Q (.bl true) H
theorem ok_is_within (T : Txt mg) (F : FnP K "is_within" s_is_within f fd) (g : mg "is_within" = some (.ref f)) (c_is_whole : Cal P w K mg base 1 "is_whole" spWhole) : Cal P w K mg base 2 "is_within" spWithin := by
  have nd := sc_is_within.nd
  refine mkCal F g (F.bindsN fun _ _ _ _ _ _ us hl => match us, hl with | [_, _, _], _ => rfl) sc_is_within (fun vs H Q E ⟨_, _, _, h, _⟩ => by rw [h]; rfl) fun cdv A outer s H vs Q E hcd hr ⟨i, lo, hi, hv, h1, h2, hQ⟩ => ⟨_, (pss_one (ps_ret (pe_and (C8.pe_c c_is_whole hr (by decide) rfl (pa_cons (pv 0) pa_nil)) (pe_one (pe_chain op_le op_le (pv 1) (pv 0) (pv 2)))))), ?_⟩
  subst hv
  refine ⟨_, rfl, i, rfl, true, rfl, _, rfl, _, rfl, _, _, rfl, rfl, true, bT h1, ?_⟩
  refine ⟨_, rfl, _, _, rfl, rfl, ?_⟩
  show Q (.bl (decide (i ≤ hi))) H
  rw [decide_eq_true h2]
  exact hQ

abbrev N_is_tree : List Str := ["thing", "number", "below"]
theorem sc_is_tree : FnScope N_is_tree ["thing"] (defScope s_is_tree) := C8.fnScope_by (by decide +kernel)
def spTree (K : PySem.W.Frag) : Sp := fun vs H Q _ => ∃ v t, vs = [v] ∧ Dp K H v (encB t) ∧ TreeOk t ∧ ∀ H', Ex H H' → Q (.bl true) H'
theorem ok_is_tree (T : Txt mg) (F : FnP K "is_tree" s_is_tree f fd) (g : mg "is_tree" = some (.ref f)) (c_is_within : Cal P w K mg base 2 "is_within" spWithin) : Cal P w K mg base 3 "is_tree" (spTree K) := by
  have nd := sc_is_tree.nd
  refine mkCal F g (F.bindsN fun _ _ _ _ _ _ us hl => match us, hl with | [_], _ => rfl) sc_is_tree (fun vs H Q E ⟨_, _, h, _⟩ => by rw [h]; rfl) fun cdv A outer s H vs Q E hcd hr ⟨v, t, hv, hd, ht, hQ⟩ => ⟨_, (pss_cons (ps_if (PW.pt (pw_or (pt_not (pt_val (pe_callB (k_isi (K := K)) rfl T.isi bt_isi (pa_cons (pv 0) (pa_cons (pe_bltn (v := .ty "tuple") rfl T.tuple bt_tuple rfl) pa_nil))))) (pw_or1 (pt_cmpR op_ge (pe_callB (k_len (K := K)) rfl T.len bt_len (pa_cons (pv 0) pa_nil)) (C8.pe_gc rfl T.kMOST_PLACES) (nomark _))))) (pss_one (ps_ret pe_bl)) pss_nil)
    (pss_one (ps_ret (pe_callB (k_all (K := K) rfl) rfl T.all bt_all (pa_cons (pe_lc (own := [("number", 1), ("below", 2)]) (g := (gTup K 2 (gCons (gName 1) (gCons (gName 2) gNil)))) rfl nd (pi_enum2 true rfl T.enum (pa_cons (pv 0) pa_nil)) (blkOk_by (N := N_is_tree) (sc := defScope s_is_tree) (by decide +kernel)) (fun _ _ _ _ _ => (pg_tup rfl (pgs_cons (pg_name (i := 1) nd rfl (Or.inl rfl)) (pgs_cons (pg_name (i := 2) nd rfl (Or.inl rfl)) pgs_nil)))) (fun _ _ _ _ _ => pts_nil) (fun _ _ _ _ _ => (C8.pe_c c_is_within hr (by decide) rfl (pa_cons (pv 2) (pa_cons pe_int (pa_cons (pv 1) pa_nil)))))) pa_nil))))), ?_⟩
  subst hv
  obtain ⟨a, rfl, ha⟩ := dp_B hd
  refine ⟨_, rfl, _, _, _, _, true, rfl, .ty _, tyX_tup ha, kit_tt, true, rfl, ?_⟩
  have hl : (t.map nI).length = t.length := List.length_map _
  have h5 := ht.1
  refine ⟨_, rfl, _, _, rfl, .inr ha, _, _, rfl, rfl, false, bF (by rw [hl]; omega), ?_⟩
  refine ⟨_, rfl, a, _, rfl, ha, fun D hD => ?_⟩
  refine lcE walk_enum2 (fun i => t[i]?) (fun _ v _ => v = .bl true) (by rw [hl]; omega) hD (fun H k => sqT_ex k ha) (fun _ _ _ _ _ h => h) (fun i x H2 H' QF QT hi k hy y q1 q2 => ?_) fun H2 ys k hy pr => ?_
  · obtain ⟨Tp, x1, x2, rfl, hT, rfl, e1, e2⟩ := y
    obtain ⟨u, hu, rfl⟩ := nI_at e2
    cases e1
    have hle := ht.2 i u hu
    refine ⟨Tp, [.int (i : Nat), nI u], rfl, SqT.of upd_same, rfl, _, _, rfl, ?_⟩
    refine ⟨_, _, rfl, rfl, rfl, ?_⟩
    refine ⟨_, rfl, _, rfl, (u : Int), 0, (i : Int), rfl, by omega, by omega, q2 u hu _ _ (Ex.one hT) rfl⟩
  · refine ⟨D, _, rfl, SqL.of (by rw [← paired_all_true (Hh := H2) pr]; exact hy), ?_⟩
    rw [all_rep]
    exact hQ H2 k

theorem down_len (t : Tree) : ∀ (f x : Nat), (down t f x).length ≤ f + 1
  | 0, x => by simp [down]
  | f + 1, x => by
    unfold down
    split
    · simp
    · have := down_len t f (t.getD (x - 1) 0)
      simp only [List.length_cons]
      omega
theorem down_zero (t : Tree) (f : Nat) : down t f 0 = [0] := by cases f <;> simp [down]
abbrev N_downward : List Str := ["tree", "place", "found"]
theorem sc_downward : FnScope N_downward ["tree", "place"] (defScope s_downward) := C8.fnScope_by (by decide +kernel)
def spDown (K : PySem.W.Frag) : Sp := fun vs H Q _ => ∃ v t n, vs = [v, nI n] ∧ Dp K H v (encB t) ∧ TreeOk t ∧ n ≤ t.length ∧ ∀ H' p, Ex H H' → H p = none → H' p = some (.lst ((down t n n).map nI)) → Q (.ref p) H'
def WDown (H : Hp) (t : Tree) (n : Nat) (a D : Addr) : Nat → L2.St → Hp → Prop := fun m σ H' => σ = [some (.ref a), some (nI n), some (.ref D)] ∧ Ex H H' ∧ ∃ pre c fu, m = c ∧ H' D = some (.lst ((pre ++ [c]).map nI)) ∧ c ≤ fu ∧ c ≤ t.length ∧ down t n n = pre ++ down t fu c ∧ pre.length + fu ≤ n
theorem ok_downward (T : Txt mg) (F : FnP K "downward" s_downward f fd) (g : mg "downward" = some (.ref f)) : Cal P w K mg base 1 "downward" (spDown K) := by
  have nd := sc_downward.nd
  refine mkCal F g (F.bindsN fun _ _ _ _ _ _ us hl => match us, hl with | [_, _], _ => rfl) sc_downward (fun vs H Q E ⟨_, _, _, h, _⟩ => by rw [h]; rfl) fun cdv A outer s H vs Q E hcd hr ⟨v, t, n, hv, hd, ht, hn, hQ⟩ => ⟨_, (pss_cons (ps_set (i := 2) nd rfl (Or.inl rfl) (pe_lst (pa_cons (pv 1) pa_nil)))
    (pss_cons (ps_while PassesOwn.never (pt_cmpR op_gt (pe_ix (k_ixL (K := K)) (pv 2) (pe_un un_neg pe_int) (fun _ _ => rfl)) pe_int (nomark _)) (pss_one (ps_expr (pe_bm PySem.F.plainAttrs_list PySem.F.slot_list_append PySem.F.type_list_append mt_append (pv 2) (pa_cons (pe_ix (k_ixT (K := K)) (pv 0) (pe_op op_sub (pe_ix (k_ixL (K := K)) (pv 2) (pe_un un_neg pe_int) (fun _ _ => rfl)) pe_int) (fun _ _ => rfl)) pa_nil)))))
    (pss_one (ps_ret (pv 2))))), ?_⟩
  subst hv
  obtain ⟨a, rfl, ha⟩ := dp_B hd
  have h5 := ht.1
  refine ⟨_, rfl, by show 1 ≤ sizeLine; decide, fun D hD => ?_⟩
  refine ⟨WDown H t n a D, ⟨n, rfl, Ex.one hD, [], n, n, rfl, upd_same, Nat.le_refl _, hn, rfl, by simp⟩, ?_⟩
  rintro c σ H1 ⟨rfl, k1, pre, c0, fu, rfl, hl, hcf, hct, hdn, hpl⟩
  refine ⟨_, rfl, _, rfl, D, _, _, _, rfl, rfl, SqL.of hl, snoc_last pre c, ?_⟩
  by_cases hc : c = 0
  · subst hc
    refine ⟨_, _, rfl, rfl, false, bF (by omega), ?_⟩
    refine ⟨_, rfl, hQ H1 D k1 hD ?_⟩
    rw [hl, hdn, down_zero]
  · refine ⟨_, _, rfl, rfl, true, bT (by omega), ?_⟩
    obtain ⟨u, hu⟩ : ∃ u, t[c - 1]? = some u := ⟨t[c - 1], by rw [List.getElem?_eq_getElem (by omega)]⟩
    have hle := ht.2 _ _ hu
    have hgd : t.getD (c - 1) 0 = u := by rw [List.getD_eq_getElem?_getD, hu]; rfl
    obtain ⟨fu', rfl⟩ : ∃ fu', fu = fu' + 1 := ⟨fu - 1, by omega⟩
    refine ⟨WDown H t n a D u, fun σ' H' h => ⟨u, by omega, h⟩, ?_⟩
    refine ⟨_, rfl, .inl ⟨rfl, _, SqL.of hl⟩, ?_⟩
    refine ⟨_, rfl, _, rfl, _, rfl, D, _, _, _, rfl, rfl, SqL.of hl, snoc_last pre c, _, _, rfl, rfl, ?_⟩
    refine ⟨a, _, _, nI u, rfl, rfl, sqT_ex k1 ha, ?_, ?_⟩
    · rw [show (c : Int) - 1 = ((c - 1 : Nat) : Int) by omega]
      exact atI_nat (at_nI hu)
    refine ⟨D, _, _, rfl, rfl, hl, ?_, ?_⟩
    · rw [List.length_map, List.length_append]
      exact small1000 (by simp; omega)
    · refine ⟨rfl, k1.loc hD, pre ++ [c], u, fu', rfl, ?_, by omega, by omega, ?_, by simp; omega⟩
      · rw [upd_same, List.map_append (l₂ := [u])]
        rfl
      · rw [hdn]
        show pre ++ (if c = 0 then [0] else c :: down t fu' (t.getD (c - 1) 0)) = _
        rw [if_neg hc, hgd, List.append_assoc]
        rfl

theorem idx_ok : ∀ {l : List Nat} {m : Nat}, m ∈ l → l[l.idxOf m]? = some m ∧ ∀ k, k < l.idxOf m → ∀ z, l[k]? = some z → z ≠ m
  | [], _, h => nomatch h
  | a :: l, m, h => by
    by_cases e : a = m
    · subst e
      rw [List.idxOf_cons_self]
      exact ⟨rfl, fun k hk => absurd hk (Nat.not_lt_zero _)⟩
    · have h' : m ∈ l := by
        rcases List.mem_cons.mp h with q | q
        · exact absurd q.symm e
        · exact q
      obtain ⟨h1, h2⟩ := idx_ok h'
      rw [List.idxOf_cons, beq_eq_false_iff_ne.mpr e, cond_false]
      refine ⟨by simpa using h1, fun k hk z hz => ?_⟩
      cases k with
      | zero =>
        simp only [List.getElem?_cons_zero, Option.some.injEq] at hz
        subst hz
        exact e
      | succ k => exact h2 k (by omega) z (by simpa using hz)
theorem cut_nI (l : List Nat) (j : Nat) : cutV (l.map nI) none (some (j : Int)) = (l.take j).map nI := by
  unfold cutV
  rw [HT.sIx_none, HT.sIx_nat, List.drop_zero, Nat.sub_zero, List.length_map, ← List.map_take]
  congr 1
  by_cases h : j ≤ l.length
  · rw [Nat.min_eq_left h]
  · rw [Nat.min_eq_right (by omega), List.take_of_length_le (Nat.le_refl _), List.take_of_length_le (by omega)]
theorem eqV_self (m : Nat) : eqV (nI m) (nI m) = true := by rw [eqV_nI]; exact decide_eq_true rfl
theorem idx_no {l : List Nat} {m : Nat} (hm : m ∈ l) : ∀ (k : Nat) (z : V), k < l.idxOf m → (l.map nI)[k]? = some z → eqV z (nI m) = false := fun k z hk hz => by
  obtain ⟨u, hu, rfl⟩ := nI_at hz
  rw [eqV_nI]
  exact decide_eq_false ((idx_ok hm).2 k hk u hu)
theorem way_find {t : Tree} (h : TreeOk t) {x y : Nat} (hx : x ≤ t.length) (hy : y ≤ t.length) : ∃ m, (down t x x).find? (fun p => (down t y y).contains p) = some m ∧ m ∈ down t x x ∧ m ∈ down t y y ∧ ((down t x x).filter fun p => (down t y y).contains p)[0]? = some m ∧
    way t x y = (down t x x).take ((down t x x).idxOf m) ++ [m] ++ ((down t y y).take ((down t y y).idxOf m)).reverse := by
  have w := (way_ok h hx hy).l
  cases e : (down t x x).find? fun p => (down t y y).contains p with
  | none =>
    unfold way at w
    rw [e] at w
    cases w
  | some m =>
    have m1 := List.mem_of_find?_eq_some e
    have m2 := List.find?_some e
    refine ⟨m, rfl, m1, con m2, ?_, by unfold way; rw [e]⟩
    rw [← List.head?_eq_getElem?, List.head?_filter]
    exact e
theorem filterMap_range {α : Type} : ∀ (l : List α) (q : α → Bool), (List.range l.length).filterMap (fun i => (l[i]?).bind fun a => if q a = true then some a else none) = l.filter q := by
  intro l q
  have h := List.filterMap_getElem?_range_length l
  conv => rhs; rw [← h]
  rw [List.filter_filterMap]
  congr 1
  funext i
  cases l[i]? with
  | none => rfl
  | some a => simp [Option.bind, Option.filter]
theorem paired_eq {α : Type} {Hh : Hp} (g : α → V) : ∀ {xs : List α} {ys : List V}, Paired (fun (a : α) (v : V) => v = g a) xs ys → ys = xs.map g
  | _, _, .nil => rfl
  | _, _, .cons h t => by rw [h, List.map_cons, paired_eq (Hh := Hh) g t]

abbrev N_steps_between : List Str := ["tree", "one", "other", "ahead", "behind", "meet", "place"]
theorem sc_steps_between : FnScope N_steps_between ["tree", "one", "other"] (defScope s_steps_between) := C8.fnScope_by (by decide +kernel)
def spSteps (K : PySem.W.Frag) : Sp := fun vs H Q _ => ∃ v t x y, vs = [v, nI x, nI y] ∧ Dp K H v (encB t) ∧ TreeOk t ∧ x ≤ t.length ∧ y ≤ t.length ∧ ∀ H' p, Ex H H' → H p = none → H' p = some (.lst ((way t x y).map nI)) → Q (.ref p) H'
theorem ok_steps_between (T : Txt mg) (F : FnP K "steps_between" s_steps_between f fd) (g : mg "steps_between" = some (.ref f)) (c_downward : Cal P w K mg base 1 "downward" (spDown K)) : Cal P w K mg base 2 "steps_between" (spSteps K) := by
  have nd := sc_steps_between.nd
  refine mkCal F g (F.bindsN fun _ _ _ _ _ _ us hl => match us, hl with | [_, _, _], _ => rfl) sc_steps_between (fun vs H Q E ⟨_, _, _, _, h, _⟩ => by rw [h]; rfl) fun cdv A outer s H vs Q E hcd hr ⟨v, t, x, y, hv, hd, ht, hx, hy, hQ⟩ => ⟨_, (pss_cons (ps_asg (pe_tup (pa_cons (C8.pe_c c_downward hr (by decide) rfl (pa_cons (pv 0) (pa_cons (pv 1) pa_nil))) (pa_cons (C8.pe_c c_downward hr (by decide) rfl (pa_cons (pv 0) (pa_cons (pv 2) pa_nil))) pa_nil))) (pg_tup rfl (pgs_cons (pg_name (i := 3) nd rfl (Or.inl rfl)) (pgs_cons (pg_name (i := 4) nd rfl (Or.inr rfl)) pgs_nil))))
    (pss_cons (ps_set (i := 5) nd rfl (Or.inl rfl) (pe_ix (k_ixL (K := K)) (pe_lc (own := [("place", 6)]) (g := (gName 6)) rfl nd (kpi_list (K := K) (pv 3)) (blkOk_by (N := N_steps_between) (sc := defScope s_steps_between) (by decide +kernel)) (fun _ _ _ _ _ => (pg_name (i := 6) nd rfl (Or.inl rfl))) (fun _ _ _ _ _ => pts_one (pt_cmpR (k_in_seq (K := K)) (pv 6) (pv 4) (by with_unfolding_all rfl))) (fun _ _ _ _ _ => (pv 6))) pe_int (fun _ _ => rfl)))
    (pss_one (ps_ret (pe_op op_cat (pe_op op_cat (pe_slice (k_slL (K := K)) (pv 3) po_none (po_some (pe_bm PySem.F.plainAttrs_list PySem.F.slot_list_index PySem.F.type_list_index (k_index (K := K)) (pv 3) (pa_cons (pv 5) pa_nil)))) (pe_lst (pa_cons (pv 5) pa_nil))) (kpe_revL (K := K) (pe_slice (k_slL (K := K)) (pv 4) po_none (po_some (pe_bm PySem.F.plainAttrs_list PySem.F.slot_list_index PySem.F.type_list_index (k_index (K := K)) (pv 4) (pa_cons (pv 5) pa_nil)))))))))), ?_⟩
  subst hv
  obtain ⟨m, _, m1, m2, m3, hw⟩ := way_find ht hx hy
  have h5 := ht.1
  have la := down_len t x x
  have lb := down_len t y y
  refine ⟨_, rfl, _, rfl, v, t, x, rfl, hd, ht, hx, fun H1 p1 k1 n1 e1 => ?_⟩
  refine ⟨_, rfl, _, rfl, v, t, y, rfl, dp_ex k1 _ _ hd, ht, hy, fun H2 p2 k2 n2 e2 => ?_⟩
  have e1' := k2 _ _ e1
  refine ⟨by show 2 ≤ sizeLine; decide, fun q hq => ?_⟩
  refine ⟨q, _, rfl, SqT.of upd_same, rfl, _, _, rfl, _, _, rfl, rfl, ?_⟩
  have k3 : Ex H2 (upd H2 q (.tup [.ref p1, .ref p2])) := Ex.one hq
  generalize upd H2 q (.tup [.ref p1, .ref p2]) = H3 at k3
  have e1 := k3 _ _ e1'
  have e2 := k3 _ _ e2
  have k : Ex H H3 := (k1.trans k2).trans k3
  clear k3 e1' hq
  refine ⟨_, rfl, p1, rfl, ⟨_, SqL.of e1⟩, fun D hD => ?_⟩
  refine lcE (walk_list (xs := (down t x x).map nI)) (fun i => ((down t x x)[i]?).bind fun a => if (down t y y).contains a = true then some a else none) (fun a v _ => v = nI a) (by rw [List.length_map]; omega) hD (fun H k => sqL_ex k (SqL.of e1)) (fun _ _ _ _ _ h => h) (fun i z H4 H' QF QT hi k4 hys yy q1 q2 => ?_) fun H4 ys k4 hys pr => ?_
  · obtain ⟨rfl, e⟩ := yy
    obtain ⟨u, hu, rfl⟩ := nI_at e
    rw [hu] at q1 q2
    refine ⟨rfl, _, rfl, _, rfl, p2, _, rfl, .inl (SqL.of (k4 _ _ e2)), rfl, flat_nI _, _, rfl, ?_⟩
    show if inV (nI u) ((down t y y).map nI) = true then _ else _
    rw [inV_nI]
    by_cases c : (down t y y).contains u = true
    · rw [if_pos c]
      exact ⟨_, rfl, q2 u (by simp only [Option.bind]; rw [if_pos c]) _ _ Ex.refl rfl⟩
    · rw [if_neg c]
      exact q1 (by simp only [Option.bind]; rw [if_neg c]) _ Ex.refl
  · have ey := paired_eq (Hh := H4) nI pr
    rw [List.length_map, filterMap_range] at ey
    subst ey
    refine ⟨D, _, _, _, rfl, rfl, SqL.of hys, atI_nat (at_nI m3), ?_⟩
    have k := k.trans k4
    have e1 := k4 _ _ e1
    have e2 := k4 _ _ e2
    -- the answer
    refine ⟨_, rfl, _, rfl, .inl ⟨rfl, _, SqL.of e1⟩, _, rfl, ?_⟩
    refine ⟨p1, _, nI m, _, nI m, rfl, rfl, SqL.of e1, rfl, flat_nI _, at_nI (idx_ok m1).1, eqV_self m, idx_no m1, _, rfl, ?_⟩
    refine ⟨p1, _, rfl, SqL.of e1, fun q1 n1 => ?_⟩
    rw [cut_nI]
    obtain ⟨H5, k5, h5a⟩ : ∃ H5, Ex H4 H5 ∧ H5 = upd H4 q1 (.lst (((down t x x).take ((down t x x).idxOf m)).map nI)) := ⟨_, Ex.one n1, rfl⟩
    have f1 : H5 q1 = some (.lst (((down t x x).take ((down t x x).idxOf m)).map nI)) := by rw [h5a]; exact upd_same
    rw [← h5a]
    clear h5a
    refine ⟨_, rfl, by show 1 ≤ sizeLine; decide, fun q2 n2 => ?_⟩
    have k6 := Ex.one (o := .lst [nI m]) n2
    refine ⟨q1, q2, _, _, rfl, rfl, k6 _ _ f1, upd_same, ?_, fun q3 n3 => ?_⟩
    · rw [List.length_map, List.length_take]
      have := small1000 (n := min ((down t x x).idxOf m) (down t x x).length + 1) (by omega)
      exact Nat.le_of_lt this
    have k7 := Ex.one (o := .lst (((down t x x).take ((down t x x).idxOf m)).map nI ++ [nI m])) n3
    have f3 : upd (upd H5 q2 (.lst [nI m])) q3 (.lst (((down t x x).take ((down t x x).idxOf m)).map nI ++ [nI m])) q3 = some _ := upd_same
    have k57 := k6.trans k7
    generalize upd (upd H5 q2 (.lst [nI m])) q3 (.lst (((down t x x).take ((down t x x).idxOf m)).map nI ++ [nI m])) = H7 at k57 f3
    have kA := k.trans (k5.trans k57)
    have e2 := k57 _ _ (k5 _ _ e2)
    refine ⟨_, rfl, _, rfl, .inl ⟨rfl, _, SqL.of e2⟩, _, rfl, ?_⟩
    refine ⟨p2, _, nI m, _, nI m, rfl, rfl, SqL.of e2, rfl, flat_nI _, at_nI (idx_ok m2).1, eqV_self m, idx_no m2, _, rfl, ?_⟩
    refine ⟨p2, _, rfl, SqL.of e2, fun q4 n4 => ?_⟩
    rw [cut_nI]
    refine ⟨q4, _, rfl, SqL.of upd_same, fun q5 n5 => ?_⟩
    have k8 := (Ex.one (o := .lst (((down t y y).take ((down t y y).idxOf m)).map nI)) n4).trans (Ex.one (o := .lst (((down t y y).take ((down t y y).idxOf m)).map nI).reverse) n5)
    refine ⟨q3, q5, _, _, rfl, rfl, k8 _ _ f3, upd_same, ?_, fun q6 n6 => ?_⟩
    · simp only [List.length_append, List.length_map, List.length_reverse, List.length_take, List.length_cons, List.length_nil]
      have := small1000 (n := min ((down t x x).idxOf m) (down t x x).length + 1 + min ((down t y y).idxOf m) (down t y y).length) (by omega)
      omega
    · refine hQ _ q6 ((kA.trans k8).new n6) ((kA.trans k8).nn n6) ?_
      rw [upd_same, hw, List.map_append, List.map_append, List.map_reverse]
      rfl
end
end J

set_option Elab.async false
set_option linter.all false
set_option maxRecDepth 100000
set_option maxHeartbeats 4000000
/-! JB: gaps, hangs_together, branch_around, least_gap. -/
namespace J
open PySem PySem.Spec PyProof.Rows L2
/-- the part of H' that is new since H -/
def sub (H' H : Hp) : Hp := fun a => match H a with
  | none => H' a
  | some _ => none
theorem sub_at {H' H : Hp} {a : Addr} {o : HO} (n : H a = none) (h : H' a = some o) : sub H' H a = some o := by
  unfold sub
  rw [n]
  exact h
theorem sub_of {H' H : Hp} {a : Addr} {o : HO} (h : sub H' H a = some o) : H a = none ∧ H' a = some o := by
  unfold sub at h
  cases e : H a with
  | none =>
    rw [e] at h
    exact ⟨rfl, h⟩
  | some u =>
    rw [e] at h
    cases h
theorem sub_ex {H' H : Hp} : Ex (sub H' H) H' := fun a o h => (sub_of h).2
theorem sub_mono {H0 H H' H'' : Hp} (k0 : Ex H0 H) (k : Ex H' H'') : Ex (sub H' H) (sub H'' H0) := fun a o h => by
  obtain ⟨h1, h2⟩ := sub_of h
  exact sub_at (k0.nn h1) (k a o h2)
def encR (rows : List (List Nat)) : PyData := .list (rows.map fun r => .list (r.map fun n : Nat => .int (n : Int)))
def scOf : Expr → Scope
  | .ListComp _ _ sc _ => sc
  | .Call _ [.ListComp _ _ sc _] _ _ => sc
  | _ => { kind := .function, names := [], isGenerator := false, isCoroutine := false }
def retE : Stmt → Expr
  | .Return (some e) _ => e
  | _ => .Constant .none 0 ⟨0, 0, 0, 0⟩
theorem blkOk_sc {N N' : List Str} {sc sc' scope : Scope} {own : List (Str × Nat)} (hn : N = N') (hs : sc = sc') (h : blkC N' sc' scope own = true) : BlkOk N sc scope own := by
  subst hn hs
  exact blkOk_by h
theorem rg_nI (n : Nat) : rgV 0 (n : Int) = (List.range n).map nI := by
  unfold rgV
  rw [show ((n : Int) - 0).toNat = n by omega]
  refine List.map_congr_left fun i _ => ?_
  show V.int (0 + (i : Int)) = V.int (i : Int)
  rw [Int.zero_add]
theorem dpAll_rows {K : PySem.W.Frag} {H : Hp} : ∀ {rows : List (List Nat)} {ys : List V}, Paired (fun (r : List Nat) (v : V) => ∃ b, v = .ref b ∧ H b = some (.lst (r.map nI))) rows ys → DpAll K H ys (rows.map fun r => .list (r.map fun n : Nat => .int (n : Int)))
  | _, _, .nil => .nil
  | _, _, .cons ⟨b, e, h⟩ t => by
    subst e
    exact .cons (.lst (SqL.of h) (dpAll_ofInts _)) (dpAll_rows t)
theorem filterMap_some {α β : Type} (g : α → β) (l : List α) : l.filterMap (fun a => some (g a)) = l.map g := by
  rw [← List.filterMap_eq_map]
  rfl
theorem range_at {n i : Nat} {v : V} (h : ((List.range n).map nI)[i]? = some v) : i < n ∧ v = nI i := by
  obtain ⟨u, hu, e⟩ := nI_at h
  obtain ⟨h1, h2⟩ := List.getElem?_eq_some_iff.mp hu
  rw [List.length_range] at h1
  rw [List.getElem_range] at h2
  subst h2
  exact ⟨h1, e⟩
section
variable {P : Program} {w : World} {K : PySem.W.Frag} {mg : Str → Option Value} {base : Heap} {f : Addr} {fd : FuncData}
abbrev N_gaps : List Str := ["tree", "numbers", "one", "other"]
theorem sc_gaps : FnScope N_gaps ["tree"] (defScope s_gaps) := C8.fnScope_by (by decide +kernel)
def spGaps (K : PySem.W.Frag) : Sp := fun vs H Q _ => ∃ v t, vs = [v] ∧ Dp K H v (encB t) ∧ TreeOk t ∧ ∀ H' y, Ex H H' → Dp K (sub H' H) y (encR (gapsL t)) → Q y H'
theorem ok_gaps (T : Txt mg) (F : FnP K "gaps" s_gaps f fd) (g : mg "gaps" = some (.ref f)) (c_steps_between : Cal P w K mg base 2 "steps_between" (spSteps K)) : Cal P w K mg base 3 "gaps" (spGaps K) := by
  have nd := sc_gaps.nd
  refine mkCal F g (F.bindsN fun _ _ _ _ _ _ us hl => match us, hl with | [_], _ => rfl) sc_gaps (fun vs H Q E ⟨_, _, h, _⟩ => by rw [h]; rfl) fun cdv A outer s H vs Q E hcd hr ⟨v, t, hv, hd, ht, hQ⟩ => ⟨_, (pss_cons (ps_set (i := 1) nd rfl (Or.inr rfl) (pe_listRg rfl rfl T.list (prg_1 rfl T.range (pe_op op_add (pe_callB (k_len (K := K)) rfl T.len bt_len (pa_cons (pv 0) pa_nil)) pe_int))))
    (pss_one (ps_ret (pe_lc (own := [("one", 2)]) (g := (gName 2)) rfl nd (kpi_list (K := K) (pv 1)) (blkOk_by (N := N_gaps) (sc := defScope s_gaps) (by decide +kernel)) (fun _ _ _ _ _ => (pg_name (i := 2) nd rfl (Or.inr rfl))) (fun _ _ _ _ _ => pts_nil) (fun _ _ _ _ _ => (pe_lc (own := [("other", 3)]) (g := (gName 3)) rfl nd (kpi_list (K := K) (pv 1)) (blkOk_sc (N' := N_gaps) (sc' := relabel (scOf (retE ((defBody s_gaps).getD 1 (.Pass ⟨0, 0, 0, 0⟩)))) (envOfC "x" (defScope s_gaps) 0 0 .none)) rfl (by rfl) (by decide +kernel)) (fun _ _ _ _ _ => (pg_name (i := 3) nd rfl (Or.inl rfl))) (fun _ _ _ _ _ => pts_nil) (fun _ _ _ _ _ => (pe_op op_sub (pe_callB (k_len (K := K)) rfl T.len bt_len (pa_cons (C8.pe_c c_steps_between hr (by decide) rfl (pa_cons (pv 0) (pa_cons (pv 2) (pa_cons (pv 3) pa_nil)))) pa_nil)) pe_int)))))))), ?_⟩
  subst hv
  obtain ⟨a, rfl, ha⟩ := dp_B hd
  have h5 := ht.1
  have hl : (t.map nI).length = t.length := List.length_map _
  refine ⟨_, rfl, a, _, rfl, .inr ha, _, _, rfl, rfl, _, rfl, RgOk.of_le (by omega) (by rw [hl]; omega) (by omega) (by omega), fun p hp => ?_⟩
  have ep : rgV 0 (((t.map nI).length : Int) + 1) = (List.range (t.length + 1)).map nI := by
    rw [hl]
    exact rg_nI (t.length + 1)
  rw [ep]
  have k0 : Ex H (upd H p (.lst ((List.range (t.length + 1)).map nI))) := Ex.one hp
  have ep : upd H p (.lst ((List.range (t.length + 1)).map nI)) p = some (.lst ((List.range (t.length + 1)).map nI)) := upd_same
  generalize upd H p (.lst ((List.range (t.length + 1)).map nI)) = H0 at k0 ep
  have hlr : ((List.range (t.length + 1)).map nI).length = t.length + 1 := by rw [List.length_map, List.length_range]
  refine ⟨_, rfl, p, rfl, ⟨_, SqL.of ep⟩, fun D hD => ?_⟩
  refine lcE (walk_list (xs := (List.range (t.length + 1)).map nI)) (fun i => some ((List.range (t.length + 1)).map fun y => gap t i y)) (fun r v H2 => ∃ b, v = .ref b ∧ b ≠ D ∧ H0 b = none ∧ H2 b = some (.lst (r.map nI))) (by rw [hlr]; omega) hD (fun H k => sqL_ex k (SqL.of ep))
    (fun r v H2 H3 kk ⟨b, e1, e2, e3, e4⟩ => ⟨b, e1, e2, e3, kk b _ e4 fun z => (e2 z).elim⟩) (fun i z H2 H' QF QT hi k hys yy q1 q2 => ?_) fun H2 ys k hys pr => ?_
  · obtain ⟨rfl, e⟩ := yy
    obtain ⟨hi', rfl⟩ := range_at e
    refine ⟨rfl, _, rfl, p, rfl, ⟨_, SqL.of (k _ _ ep)⟩, fun D2 hD2 => ?_⟩
    refine lcE (walk_list (xs := (List.range (t.length + 1)).map nI)) (fun j => some (gap t i j)) (fun a v _ => v = nI a) (by rw [hlr]; omega) hD2 (fun H k2 => sqL_ex k2 (SqL.of (k _ _ ep))) (fun _ _ _ _ _ h => h) (fun j z H3 H' QF2 QT2 hj k3 hys2 yy q3 q4 => ?_) fun H3 ys k3 hys2 pr => ?_
    · obtain ⟨rfl, e⟩ := yy
      obtain ⟨hj', rfl⟩ := range_at e
      refine ⟨rfl, _, rfl, _, rfl, _, rfl, .ref a, t, i, j, rfl, dp_ex ((k0.trans k).trans k3) _ _ hd, ht, by omega, by omega, fun H4 p4 k4 n4 e4 => ?_⟩
      refine ⟨p4, _, rfl, .inl (SqL.of e4), _, _, rfl, rfl, ?_⟩
      refine q4 _ rfl _ _ k4 ?_
      show V.int _ = V.int _
      congr 1
      have w := List.length_pos_of_mem (way_ok ht (x := i) (y := j) (by omega) (by omega)).l
      rw [List.length_map]
      unfold gap
      omega
    · have ey := paired_eq (Hh := H3) nI pr
      rw [hlr, filterMap_some] at ey
      subst ey
      refine q2 _ rfl _ _ k3 ⟨D2, rfl, ?_, ?_, hys2⟩
      · obtain ⟨ys0, h0⟩ := hys
        exact fun z => ne_of_none h0 hD2 z.symm
      · exact k.nn hD2
  · rw [hlr, filterMap_some] at pr
    refine hQ H2 (.ref D) (k0.trans k) (.lst (SqL.of (sub_at (k0.nn hD) hys)) ?_)
    exact dpAll_rows (Paired.mapP pr fun r v ⟨b, e1, e2, e3, e4⟩ => ⟨b, e1, sub_at (k0.nn e3) e4⟩)

/-- any loop over a walk -/
theorem walkW {J : It} {n : Nat} {G : Hp → Prop} {Y : Nat → Hp → V → Hp → Prop} (wk : Walk J n G Y) {H0 : Hp} {Stop : Hp → Prop} {Body : (Hp → Prop) → V → Hp → Prop} (Pv : Nat → Hp → Prop) (h0 : Pv 0 H0) (hG : ∀ i H, i ≤ n → Pv i H → G H)
    (hs : ∀ i x H H', i < n → Pv i H → Y i H x H' → Body (Pv (i + 1)) x H') (hd : ∀ H, Pv n H → Stop H) :
    Goes J H0 Stop Body := by
  refine ⟨fun i m H => m = n - i ∧ i ≤ n ∧ Pv i H, ⟨n, by simp, Nat.zero_le _, h0⟩, ?_⟩
  rintro i m H ⟨rfl, hi, p⟩
  have q := hG i H hi p
  by_cases hlt : i < n
  · exact .inr ⟨wk.goes i H hlt q, Pv (i + 1), fun H' p' => ⟨n - (i + 1), by omega, rfl, hlt, p'⟩, fun x H' y => hs i x H H' hlt p (wk.yields i H x H' hlt q y)⟩
  · have e : i = n := by omega
    subst e
    exact .inl ⟨wk.stops H q, hd H p⟩
theorem sortedI_uniq : ∀ {l m : List Int}, l.Pairwise (· < ·) → m.Pairwise (· < ·) → (∀ k, k ∈ l ↔ k ∈ m) → l = m
  | [], [], _, _, _ => rfl
  | [], b :: m, _, _, h => absurd ((h b).mpr List.mem_cons_self) (by simp)
  | a :: l, [], _, _, h => absurd ((h a).mp List.mem_cons_self) (by simp)
  | a :: l, b :: m, hl, hm, h => by
    obtain ⟨l1, l2⟩ := List.pairwise_cons.mp hl
    obtain ⟨m1, m2⟩ := List.pairwise_cons.mp hm
    have e : a = b := by
      rcases List.mem_cons.mp ((h a).mp List.mem_cons_self) with q | q
      · exact q
      · rcases List.mem_cons.mp ((h b).mpr List.mem_cons_self) with q' | q'
        · exact q'.symm
        · have := l1 b q'
          have := m1 a q
          omega
    subst e
    rw [sortedI_uniq l2 m2 fun k => ?_]
    constructor
    · intro hk
      rcases List.mem_cons.mp ((h k).mp (List.mem_cons_of_mem _ hk)) with q | q
      · have := l1 k hk
        omega
      · exact q
    · intro hk
      rcases List.mem_cons.mp ((h k).mpr (List.mem_cons_of_mem _ hk)) with q | q
      · have := m1 k hk
        omega
      · exact q
def toI (b : List Nat) : List Int := b.map fun n : Nat => (n : Int)
theorem toI_V (b : List Nat) : (toI b).map V.int = b.map nI := by
  unfold toI
  rw [List.map_map]
  rfl
theorem toI_sorted {b : List Nat} (h : b.Pairwise (· < ·)) : (toI b).Pairwise (· < ·) := by
  unfold toI
  rw [List.pairwise_map]
  exact h.imp fun h => by omega
theorem mem_toI {b : List Nat} {k : Int} : k ∈ toI b ↔ ∃ n : Nat, n ∈ b ∧ (n : Int) = k := List.mem_map
theorem br_len {t : Tree} {b : List Nat} (ht : TreeOk t) (h : BrOk t b) : b.length ≤ 6 := by
  have := nat_nodup_len b (List.range 6) (h.sorted.imp fun h => Nat.ne_of_lt h) fun x hx => List.mem_range.mpr (by have := h.le x hx; have := ht.1; omega)
  rwa [List.length_range] at this
theorem eqv_listI (b : List Nat) : PyData.eqv (.list (b.map fun n : Nat => PyData.int (n : Int))) (.list (b.map fun n : Nat => PyData.int (n : Int))) = true := by
  simp only [PyData.eqv]
  rw [eqv_ints]
  exact decide_eq_true rfl
theorem shaped_LI (b : List Nat) : SeqAt.shaped (.list (b.map fun n : Nat => PyData.int (n : Int))) = true :=
  shaped_of (by simp only [PyData.canLay0]; exact lay_ints b) (by
    have := encB_depth b
    unfold encB at this
    simp only [PyData.depth] at this ⊢
    omega)

abbrev N_hangs_together : List Str := ["tree", "thing", "first", "others", "place"]
theorem sc_hangs_together : FnScope N_hangs_together ["tree", "thing"] (defScope s_hangs_together) := C8.fnScope_by (by decide +kernel)
def spHang (K : PySem.W.Frag) : Sp := fun vs H Q _ => ∃ v t u b, vs = [v, u] ∧ Dp K H v (encB t) ∧ Dp K H u (encB b) ∧ TreeOk t ∧ BrOk t b ∧ ∀ H', Ex H H' → Q (.bl true) H'
theorem ok_hangs_together (T : Txt mg) (F : FnP K "hangs_together" s_hangs_together f fd) (g : mg "hangs_together" = some (.ref f)) (c_is_within : Cal P w K mg base 2 "is_within" spWithin) : Cal P w K mg base 3 "hangs_together" (spHang K) := by
  have nd := sc_hangs_together.nd
  refine mkCal F g (F.bindsN fun _ _ _ _ _ _ us hl => match us, hl with | [_, _], _ => rfl) sc_hangs_together (fun vs H Q E ⟨_, _, _, _, h, _⟩ => by rw [h]; rfl) fun cdv A outer s H vs Q E hcd hr ⟨v, t, u, b, hv, hd, hb, ht, ok, hQ⟩ => ⟨_, (pss_cons (ps_if (PW.pt (pw_or (pt_not (pt_val (pe_callB (k_isi (K := K)) rfl T.isi bt_isi (pa_cons (pv 1) (pa_cons (pe_bltn (v := .ty "tuple") rfl T.tuple bt_tuple rfl) pa_nil))))) (pw_or1 (pt_cmpR (k_eqE (K := K) (hu1_of hr)) (pv 1) (pe_tup pa_nil) (nomark _))))) (pss_one (ps_ret pe_bl)) pss_nil)
    (pss_cons (ps_if (PW.pt (pw_or (pt_not (pt_val (pe_callB (k_all (K := K) rfl) rfl T.all bt_all (pa_cons (pe_lc (own := [("place", 4)]) (g := (gName 4)) rfl nd (kpi_tup (K := K) (pv 1)) (blkOk_by (N := N_hangs_together) (sc := defScope s_hangs_together) (by decide +kernel)) (fun _ _ _ _ _ => (pg_name (i := 4) nd rfl (Or.inl rfl))) (fun _ _ _ _ _ => pts_nil) (fun _ _ _ _ _ => (C8.pe_c c_is_within hr (by decide) rfl (pa_cons (pv 4) (pa_cons pe_int (pa_cons (pe_callB (k_len (K := K)) rfl T.len bt_len (pa_cons (pv 0) pa_nil)) pa_nil)))))) pa_nil)))) (pw_or1 (pt_cmpR (k_neD (K := K) (hu64_of hr)) (pe_callTy (k_list (K := K)) rfl T.list bt_list (pa_cons (pv 1) pa_nil)) (pe_callB (cr_sortedSet rfl) rfl T.sorted bt_sorted (pa_cons (pe_callTy (k_setI (K := K) rfl) rfl T.set bt_set (pa_cons (pv 1) pa_nil)) pa_nil)) (nomark _))))) (pss_one (ps_ret pe_bl)) pss_nil)
    (pss_cons (ps_asg (pv 1) (pg_star (n := 1) rfl (pgs_cons (pg_name (i := 2) nd rfl (Or.inl rfl)) (pgs_star (pg_name (i := 3) nd rfl (Or.inl rfl))))))
    (pss_one (ps_ret (pe_callB (k_all (K := K) rfl) rfl T.all bt_all (pa_cons (pe_lc (own := [("place", 4)]) (g := (gName 4)) rfl nd (kpi_list (K := K) (pv 3)) (blkOk_by (N := N_hangs_together) (sc := defScope s_hangs_together) (by decide +kernel)) (fun _ _ _ _ _ => (pg_name (i := 4) nd rfl (Or.inl rfl))) (fun _ _ _ _ _ => pts_nil) (fun _ _ _ _ _ => (pe_cmpR (k_in_seq (K := K)) (pe_ix (k_ixT (K := K)) (pv 0) (pe_op op_sub (pv 4) pe_int) (fun _ _ => rfl)) (pv 1) (by with_unfolding_all rfl)))) pa_nil))))))), ?_⟩
  subst hv
  obtain ⟨a, rfl, ha⟩ := dp_B hd
  obtain ⟨a2, rfl, ha2⟩ := dp_B hb
  have h5 := ht.1
  have h6 := br_len ht ok
  have hlt : (t.map nI).length = t.length := List.length_map _
  have hlb : (b.map nI).length = b.length := List.length_map _
  obtain ⟨f0, os, rfl⟩ : ∃ f0 os, b = f0 :: os := by
    cases b with
    | nil => exact absurd rfl ok.ne
    | cons f0 os => exact ⟨f0, os, rfl⟩
  refine ⟨_, rfl, _, _, _, _, true, rfl, .ty _, tyX_tup ha2, kit_tt, true, rfl, ?_⟩
  refine ⟨_, rfl, by show 0 ≤ sizeLine; exact Nat.zero_le _, fun q hq => ?_⟩
  have k0 : Ex H (upd H q (.tup [])) := Ex.one hq
  refine ⟨true, a2, q, _, rfl, rfl, sqT_ex k0 ha2, SqT.of upd_same, false, rfl, ?_⟩
  generalize upd H q (.tup []) = H0 at k0
  refine ⟨_, rfl, a2, rfl, ⟨_, sqT_ex k0 ha2⟩, fun D hD => ?_⟩
  refine lcE (walk_tup (xs := (f0 :: os).map nI)) (fun i => (f0 :: os)[i]?) (fun _ v _ => v = .bl true) (by rw [hlb]; omega) hD (fun H k => sqT_ex (k0.trans k) ha2) (fun _ _ _ _ _ h => h) (fun i z H2 H' QF QT hi k hys yy q1 q2 => ?_) fun H2 ys k hys pr => ?_
  · obtain ⟨rfl, e⟩ := yy
    obtain ⟨p, hp, rfl⟩ := nI_at e
    have hle := ok.le p (List.mem_of_getElem? hp)
    refine ⟨rfl, _, rfl, _, rfl, a, _, rfl, .inr (sqT_ex (k0.trans k) ha), p, 0, _, rfl, by omega, ?_, q2 p hp _ _ Ex.refl rfl⟩
    rw [hlt]
    omega
  · refine ⟨D, _, rfl, SqL.of (by rw [← paired_all_true (Hh := H2) pr]; exact hys), true, by rw [all_rep], ?_⟩
    have k := k0.trans k
    clear k0 hD hys pr
    refine ⟨_, rfl, a2, _, rfl, .inr (sqT_ex k ha2), fun p1 n1 => ?_⟩
    have k1 : Ex H2 (upd H2 p1 (.lst ((f0 :: os).map nI))) := Ex.one n1
    have e1 : upd H2 p1 (.lst ((f0 :: os).map nI)) p1 = some (.lst ((f0 :: os).map nI)) := upd_same
    generalize upd H2 p1 (.lst ((f0 :: os).map nI)) = H3 at k1 e1
    refine ⟨_, rfl, true, a2, toI (f0 :: os), rfl, ?_, ?_, fun p2 S n n2 hS hn => ?_⟩
    · rw [toI_V]
      exact sqT_ex (k.trans k1) ha2
    · unfold toI
      rw [List.length_map]
      omega
    have hn6 : n ≤ 6 := by
      unfold toI at hn
      rw [List.length_map] at hn
      omega
    refine ⟨p2, S, n, rfl, upd_same, by omega, fun ns p3 s3 m3 l3 n3 => ?_⟩
    have en : ns = toI (f0 :: os) := sortedI_uniq s3 (toI_sorted ok.sorted) fun k => (m3 k).trans (hS k)
    subst en
    rw [toI_V]
    have k2 := (Ex.one (o := SetO w p2 S n) n2).trans (Ex.one (o := .lst ((f0 :: os).map nI)) n3)
    refine ⟨.list ((f0 :: os).map fun n : Nat => .int (n : Int)), .list ((f0 :: os).map fun n : Nat => .int (n : Int)), .lst (SqL.of (k2 _ _ e1)) (dpAll_ofInts _), .lst (SqL.of upd_same) (dpAll_ofInts _), shaped_LI _, shaped_LI _, false, by rw [eqv_listI]; rfl, ?_⟩
    have k := (k.trans k1).trans k2
    refine ⟨_, rfl, a2, _, rfl, sqT_ex k ha2, by rw [hlb]; exact Nat.succ_le_succ (Nat.zero_le _), fun p4 n4 => ?_⟩
    refine ⟨_, _, rfl, _, _, rfl, rfl, ?_⟩
    have k5 := k.trans (Ex.one (o := .lst (os.map nI)) n4)
    refine ⟨_, rfl, p4, rfl, ⟨_, SqL.of upd_same⟩, fun D2 hD2 => ?_⟩
    have hlo : (os.map nI).length = os.length := List.length_map _
    have h7 : os.length ≤ 6 := Nat.le_trans (Nat.le_succ _) h6
    refine lcE (walk_list (xs := os.map nI)) (fun i => os[i]?) (fun _ v _ => v = .bl true) (by rw [hlo]; omega) hD2 (fun H k => sqL_ex k (SqL.of upd_same)) (fun _ _ _ _ _ h => h) (fun i z H6 H' QF QT hi k6 hys yy q1 q2 => ?_) fun H6 ys k6 hys pr => ?_
    · obtain ⟨rfl, e⟩ := yy
      obtain ⟨p, hp, rfl⟩ := nI_at e
      have hpm := List.mem_of_getElem? hp
      have hle := ok.le p (List.mem_cons_of_mem _ hpm)
      have hgt := (List.pairwise_cons.mp ok.sorted).1 p hpm
      have up := br_up ht ok p hpm
      obtain ⟨u, hu⟩ : ∃ u, t[p - 1]? = some u := ⟨t[p - 1], by rw [List.getElem?_eq_getElem (by omega)]⟩
      rw [List.getD_eq_getElem?_getD, hu] at up
      refine ⟨rfl, _, rfl, _, rfl, _, _, rfl, rfl, a, _, _, nI u, rfl, rfl, sqT_ex (k5.trans k6) ha, ?_, ?_⟩
      · rw [show (p : Int) - 1 = ((p - 1 : Nat) : Int) by omega]
        exact atI_nat (at_nI hu)
      refine ⟨_, rfl, a2, _, rfl, .inr (sqT_ex (k5.trans k6) ha2), rfl, flat_nI _, q2 p hp _ _ Ex.refl ?_⟩
      show V.bl (inV (nI u) ((f0 :: os).map nI)) = V.bl true
      rw [inV_nI]
      exact congrArg V.bl (List.contains_iff_mem.mpr up)
    · refine ⟨D2, _, rfl, SqL.of (by rw [← paired_all_true (Hh := H6) pr]; exact hys), ?_⟩
      rw [all_rep]
      exact hQ H6 (k5.trans k6)

/-- the members below six -/
def cnt (S : Int → Bool) : Nat := (List.range 6).countP fun k : Nat => S (k : Int)
theorem cnt_add {S : Int → Bool} {c : Nat} (hc : c < 6) (h : S (c : Int) = false) : cnt (fun j => S j || decide (j = (c : Int))) = cnt S + 1 := by
  unfold cnt
  have e : List.range 6 = [0, 1, 2, 3, 4, 5] := by decide
  rw [e]
  match c, hc, h with
  | 0, _, h => simp only [List.countP_cons, List.countP_nil]; simp [show S 0 = false from h]
  | 1, _, h => simp only [List.countP_cons, List.countP_nil]; simp [show S 1 = false from h]; omega
  | 2, _, h => simp only [List.countP_cons, List.countP_nil]; simp [show S 2 = false from h]; omega
  | 3, _, h => simp only [List.countP_cons, List.countP_nil]; simp [show S 3 = false from h]; omega
  | 4, _, h => simp only [List.countP_cons, List.countP_nil]; simp [show S 4 = false from h]; omega
  | 5, _, h => simp only [List.countP_cons, List.countP_nil]; simp [show S 5 = false from h]; omega
theorem cnt_same {S : Int → Bool} {c : Int} (h : S c = true) : cnt (fun j => S j || decide (j = c)) = cnt S := by
  have e : (fun j => S j || decide (j = c)) = S := by
    funext j
    by_cases q : j = c
    · subst q
      rw [h]
      rfl
    · rw [decide_eq_false q, Bool.or_false]
  rw [e]
theorem cnt_le (S : Int → Bool) : cnt S ≤ 6 := by
  have h : cnt S ≤ (List.range 6).length := List.countP_le_length
  rwa [List.length_range] at h
theorem cnt_zero : cnt (fun _ => false) = 0 := by decide

abbrev N_branch_around : List Str := ["tree", "some", "first", "others", "place", "step"]
theorem sc_branch_around : FnScope N_branch_around ["tree", "some"] (defScope s_branch_around) := C8.fnScope_by (by decide +kernel)
def spAround (K : PySem.W.Frag) : Sp := fun vs H Q _ => ∃ v t u f os, vs = [v, u] ∧ Dp K H v (encB t) ∧ Dp K H u (encB (f :: os)) ∧ TreeOk t ∧ f ≤ t.length ∧ (∀ o ∈ os, o ≤ t.length) ∧ os.length ≤ 100 ∧ ∀ H' y, Ex H H' → Dp K H' y (encB (aroundF t f os)) → Q y H'
theorem ok_branch_around (T : Txt mg) (F : FnP K "branch_around" s_branch_around f fd) (g : mg "branch_around" = some (.ref f)) (c_steps_between : Cal P w K mg base 2 "steps_between" (spSteps K)) : Cal P w K mg base 3 "branch_around" (spAround K) := by
  have nd := sc_branch_around.nd
  refine mkCal F g (F.bindsN fun _ _ _ _ _ _ us hl => match us, hl with | [_, _], _ => rfl) sc_branch_around (fun vs H Q E ⟨_, _, _, _, _, h, _⟩ => by rw [h]; rfl) fun cdv A outer s H vs Q E hcd hr ⟨v, t, u, f0, os, hv, hd, hb, ht, hf, ho, hlo, hQ⟩ => ⟨_, (pss_cons (ps_asg (pv 1) (pg_star (n := 1) rfl (pgs_cons (pg_name (i := 2) nd rfl (Or.inr rfl)) (pgs_star (pg_name (i := 3) nd rfl (Or.inl rfl))))))
    (pss_one (ps_ret (pe_callTy (k_tuple (K := K)) rfl T.tuple bt_tuple (pa_cons (pe_callB (cr_sortedSet rfl) rfl T.sorted bt_sorted (pa_cons (pe_op op_orI (pe_set1 (pv 2) hcd) (pe_sc2 (own := [("place", 4), ("step", 5)]) (vs1 := [5]) (g := (gName 4)) (g1 := (gName 5)) rfl nd (kpi_list (K := K) (pv 3)) (blkOk_by (N := N_branch_around) (sc := defScope s_branch_around) (by decide +kernel)) (by decide) (fun _ _ _ _ _ => (pg_name (i := 4) nd rfl (Or.inl rfl))) (fun _ _ _ _ _ => (kpi_list (K := K) (C8.pe_c c_steps_between hr (by decide) rfl (pa_cons (pv 0) (pa_cons (pv 2) (pa_cons (pv 4) pa_nil)))))) (fun _ _ _ _ _ => (pg_name (i := 5) nd rfl (Or.inl rfl))) (fun _ _ _ _ _ => (pv 5)))) pa_nil)) pa_nil))))), ?_⟩
  subst hv
  obtain ⟨a, rfl, ha⟩ := dp_B hd
  obtain ⟨a2, rfl, ha2⟩ := dp_B hb
  have h5 := ht.1
  have hlen : (os.map nI).length = os.length := List.length_map _
  refine ⟨_, rfl, a2, _, rfl, ha2, by rw [List.length_map]; exact Nat.succ_le_succ (Nat.zero_le _), fun p1 n1 => ?_⟩
  refine ⟨_, _, rfl, _, _, rfl, rfl, ?_⟩
  have k1 : Ex H (upd H p1 (.lst (os.map nI))) := Ex.one n1
  have e1 : upd H p1 (.lst (os.map nI)) p1 = some (.lst (os.map nI)) := upd_same
  refine fun q1 m1 => ⟨_, rfl, _, rfl, upd_same, ?_⟩
  have k2 : Ex (upd H p1 (.lst (os.map nI))) (upd (upd (upd H p1 (.lst (os.map nI))) q1 (Set0O w q1)) q1 (Set1O w q1 (f0 : Int))) := (Ex.one m1).loc m1
  have e2 : upd (upd (upd H p1 (.lst (os.map nI))) q1 (Set0O w q1)) q1 (Set1O w q1 (f0 : Int)) q1 = some (Set1O w q1 (f0 : Int)) := upd_same
  obtain ⟨H2, eH2⟩ : ∃ H2, H2 = upd (upd (upd H p1 (.lst (os.map nI))) q1 (Set0O w q1)) q1 (Set1O w q1 (f0 : Int)) := ⟨_, rfl⟩
  rw [← eH2] at k2 e2
  refine ⟨_, rfl, p1, rfl, ⟨_, SqL.of ((Ex.one m1).loc m1 _ _ e1)⟩, ?_⟩
  intro D hD
  have hD : H2 D = none := by rw [eH2]; exact hD
  have k02 := k1.trans k2
  refine walkW (walk_list (xs := os.map nI)) (fun i Hx => Ex H2 Hx ∧ ∃ S, Hx D = some (SetO w D S (cnt S)) ∧ (∀ k, S k = true ↔ ∃ o ∈ os.take i, ∃ m ∈ way t f0 o, k = ((m : Nat) : Int))) ?_ (fun i Hx _ hx => SqL.of (hx.1 _ _ (k2 _ _ e1))) (fun i z Hx H' hi hx yy => ?_) fun Hx hx => ?_
  · subst eH2
    refine ⟨Ex.one hD, fun _ => false, by rw [cnt_zero]; exact upd_same, fun k => ?_⟩
    simp
  · obtain ⟨rfl, e⟩ := yy
    obtain ⟨o, ho', rfl⟩ := nI_at e
    obtain ⟨kx, S, hS, mS⟩ := hx
    have hol := ho o (List.mem_of_getElem? ho')
    refine ⟨rfl, _, rfl, _, rfl, _, rfl, .ref a, t, f0, o, rfl, dp_ex (k02.trans kx) _ _ hd, ht, hf, hol, fun H4 p4 k4 n4 e4 => ?_⟩
    refine ⟨p4, rfl, ⟨_, SqL.of e4⟩, ?_⟩
    have ne4 : D ≠ p4 := ne_of_none hS n4
    refine walkW (walk_list (xs := (way t f0 o).map nI)) (fun j Hx => Ex H2 Hx ∧ Hx p4 = some (.lst ((way t f0 o).map nI)) ∧ ∃ S, Hx D = some (SetO w D S (cnt S)) ∧ (∀ k, S k = true ↔ (∃ o ∈ os.take i, ∃ m ∈ way t f0 o, k = ((m : Nat) : Int)) ∨ ∃ m ∈ (way t f0 o).take j, k = ((m : Nat) : Int))) ⟨kx.trans k4, e4, S, k4 _ _ hS, fun k => ?_⟩ (fun j Hy _ hy => SqL.of hy.2.1) (fun j z Hy H' hj hy yy => ?_) fun Hy hy => ?_
    · rw [mS k]
      simp
    · obtain ⟨rfl, e⟩ := yy
      obtain ⟨m, hm, rfl⟩ := nI_at e
      obtain ⟨ky, hp4, S2, hS2, mS2⟩ := hy
      have hmw := List.mem_of_getElem? hm
      have hml := (way_ok ht hf hol).le m hmw
      refine ⟨rfl, _, rfl, (m : Int), S2, cnt S2, rfl, hS2, by have := cnt_le S2; unfold scanBound; omega, ky.loc hD, by rw [upd_ne ne4.symm]; exact hp4, fun j => S2 j || decide (j = (m : Int)), ?_, fun k => ?_⟩
      · rw [upd_same]
        cases c : S2 (m : Int) with
        | true => rw [if_pos rfl, cnt_same c]; rfl
        | false => rw [if_neg Bool.false_ne_true, cnt_add (by omega) c]; rfl
      · rw [Bool.or_eq_true, decide_eq_true_eq, mS2 k, List.take_add_one, hm]
        simp only [List.mem_append, Option.toList, List.mem_singleton]
        constructor
        · rintro ((q | ⟨x, hx, e⟩) | e)
          · exact .inl q
          · exact .inr ⟨x, .inl hx, e⟩
          · exact .inr ⟨m, .inr rfl, e⟩
        · rintro (q | ⟨x, hx | hx, e⟩)
          · exact .inl (.inl q)
          · exact .inl (.inr ⟨x, hx, e⟩)
          · rw [hx] at e
            exact .inr e
    · obtain ⟨ky, hp4, S2, hS2, mS2⟩ := hy
      refine ⟨ky, S2, hS2, fun k => ?_⟩
      rw [mS2 k, List.length_map, List.take_length, List.take_add_one, ho']
      simp only [List.mem_append, Option.toList, List.mem_singleton]
      constructor
      · rintro (⟨x, hx, q⟩ | q)
        · exact ⟨x, .inl hx, q⟩
        · exact ⟨o, .inr rfl, q⟩
      · rintro ⟨x, hx | hx, q⟩
        · exact .inl ⟨x, hx, q⟩
        · rw [hx] at q
          exact .inr q
  · obtain ⟨kx, S, hS, mS⟩ := hx
    rw [hlen, List.take_length] at mS
    refine ⟨q1, D, (f0 : Int), S, cnt S, rfl, rfl, ne_of_none e2 hD, kx _ _ e2, hS, cnt_le S, fun p2 S' n' n2 mS' hn' => ?_⟩
    refine ⟨p2, S', n', rfl, upd_same, by omega, fun ns p3 s3 m3 l3 n3 => ?_⟩
    have en : ns = toI (aroundF t f0 os) := sortedI_uniq s3 (toI_sorted (aroundF_ok ht hf ho).sorted) fun k => by
      rw [m3 k, mS' k, mS k, mem_toI]
      constructor
      · rintro (q | ⟨o, ho2, m, hm, q⟩)
        · exact ⟨f0, (aroundF_mem ht hf ho).mpr (.inl rfl), q.symm⟩
        · exact ⟨m, (aroundF_mem ht hf ho).mpr (.inr ⟨o, ho2, hm⟩), q.symm⟩
      · rintro ⟨n, hn, rfl⟩
        rcases (aroundF_mem ht hf ho).mp hn with q | ⟨o, ho2, hm⟩
        · exact .inl (by rw [q])
        · exact .inr ⟨o, ho2, n, hm, rfl⟩
    subst en
    rw [toI_V]
    refine ⟨p3, _, rfl, .inl ⟨SqL.of upd_same, fun l hl => hQ _ (.ref l) (((k02.trans kx).new n2).new n3 |>.new hl) (B_dp (SqT.of upd_same))⟩⟩

theorem flat3 (z : Int × Int × Int) : flatD (tr3 z) = true := rfl
theorem flat3s : ∀ zs : List (Int × Int × Int), flatDs (zs.map tr3) = true
  | [] => rfl
  | z :: zs => by
    show (flatD (tr3 z) && flatDs (zs.map tr3)) = true
    rw [flat3, flat3s zs]
    rfl
def trip (t : Tree) (x y : Nat) : Int × Int × Int := ((gap t x y : Nat), (x : Nat), (y : Nat))
/-- the row at x, the cell at y -/
theorem rows_at {K : PySem.W.Frag} {H : Hp} {v : V} {t : Tree} (h : Dp K H v (encR (gapsL t))) : ∃ a xs, v = .ref a ∧ SqL K H a xs ∧ ∀ x, x ≤ t.length → ∃ r ys, xs[x]? = some (.ref r) ∧ SqL K H r ys ∧ ∀ y, y ≤ t.length → ys[y]? = some (nI (gap t x y)) := by
  obtain ⟨a, xs, e, hs, ha⟩ := dp_L h
  refine ⟨a, xs, e, hs, fun x hx => ?_⟩
  have h1 : ((gapsL t).map fun r => PyData.list (r.map fun n : Nat => PyData.int (n : Int)))[x]? = some (.list (((List.range (t.length + 1)).map fun y => gap t x y).map fun n : Nat => PyData.int (n : Int))) := by
    unfold gapsL
    rw [List.map_map, List.getElem?_map, List.getElem?_range (by omega)]
    rfl
  obtain ⟨r0, hr0, hd⟩ := dpAll_get ha h1
  obtain ⟨r, ys, er, hs2, ha2⟩ := dp_L hd
  rw [dpAll_ints ha2] at hs2
  refine ⟨r, _, by rw [hr0, er], hs2, fun y hy => ?_⟩
  rw [List.getElem?_map, List.getElem?_map, List.getElem?_range (by omega)]
  rfl

abbrev N_least_gap : List Str := ["rows", "one", "other", "here", "there"]
theorem sc_least_gap : FnScope N_least_gap ["rows", "one", "other"] (defScope s_least_gap) := C8.fnScope_by (by decide +kernel)
def spLeast (K : PySem.W.Frag) : Sp := fun vs H Q _ => ∃ v t u z a b, vs = [v, u, z] ∧ Dp K H v (encR (gapsL t)) ∧ Dp K H u (encB a) ∧ Dp K H z (encB b) ∧ (∀ x ∈ a, x ≤ t.length) ∧ (∀ y ∈ b, y ≤ t.length) ∧ a ≠ [] ∧ b ≠ [] ∧ a.length ≤ 10 ∧ b.length ≤ 10 ∧
  ∀ H' p x y, Ex H H' → SqT K H' p [nI (lg t a b), x, y] → Q (.ref p) H'
theorem ok_least_gap (T : Txt mg) (F : FnP K "least_gap" s_least_gap f fd) (g : mg "least_gap" = some (.ref f)) : Cal P w K mg base 1 "least_gap" (spLeast K) := by
  have nd := sc_least_gap.nd
  refine mkCal F g (F.bindsN fun _ _ _ _ _ _ us hl => match us, hl with | [_, _, _], _ => rfl) sc_least_gap (fun vs H Q E ⟨_, _, _, _, _, _, h, _⟩ => by rw [h]; rfl) fun cdv A outer s H vs Q E hcd hr ⟨v, t, u, z, a, b, hv, hd, ha, hb, la, lb, na, nb, za, zb, hQ⟩ => ⟨_, (pss_one (ps_ret (pe_callB (k_min3 (K := K) rfl (hu65_of hr)) rfl T.min bt_min (pa_cons (pe_lc2 (own := [("here", 3), ("there", 4)]) (vs1 := [4]) (g := (gName 3)) (g1 := (gName 4)) rfl nd (kpi_tup (K := K) (pv 1)) (blkOk_by (N := N_least_gap) (sc := defScope s_least_gap) (by decide +kernel)) (by decide) (fun _ _ _ _ _ => (pg_name (i := 3) nd rfl (Or.inl rfl))) (fun _ _ _ _ _ => pts_nil) (fun _ _ _ _ _ => (kpi_tup (K := K) (pv 2))) (fun _ _ _ _ _ => (pg_name (i := 4) nd rfl (Or.inl rfl))) (fun _ _ _ _ _ => pts_nil) (fun _ _ _ _ _ => (pe_tup (pa_cons (pe_ix (k_ixL (K := K)) (pe_ix (k_ixL (K := K)) (pv 0) (pv 3) (fun _ _ => rfl)) (pv 4) (fun _ _ => rfl)) (pa_cons (pv 3) (pa_cons (pv 4) pa_nil)))))) pa_nil)))), ?_⟩
  subst hv
  obtain ⟨r0, xs, rfl, hr0, hrow⟩ := rows_at hd
  obtain ⟨a1, rfl, ha1⟩ := dp_B ha
  obtain ⟨b1, rfl, hb1⟩ := dp_B hb
  refine ⟨_, rfl, a1, rfl, ⟨_, ha1⟩, ?_⟩
  intro D hD
  refine walkW (walk_tup (xs := a.map nI)) (fun i Hx => Ex H Hx ∧ ∃ acc, Hx D = some (.lst acc) ∧ DpAll K Hx acc (((a.take i).flatMap fun x => b.map fun y => trip t x y).map tr3)) ⟨Ex.one hD, [], upd_same, .nil⟩ (fun i Hx _ hx => sqT_ex hx.1 ha1) (fun i z Hx H' hi hx yy => ?_) fun Hx hx => ?_
  · obtain ⟨rfl, e⟩ := yy
    obtain ⟨x, hx', rfl⟩ := nI_at e
    obtain ⟨kx, acc, hacc, dacc⟩ := hx
    have hxl := la x (List.mem_of_getElem? hx')
    refine ⟨rfl, _, rfl, b1, rfl, ⟨_, sqT_ex kx hb1⟩, ?_⟩
    refine walkW (walk_tup (xs := b.map nI)) (fun j Hx => Ex H Hx ∧ ∃ acc, Hx D = some (.lst acc) ∧ DpAll K Hx acc ((((a.take i).flatMap fun x => b.map fun y => trip t x y) ++ (b.take j).map fun y => trip t x y).map tr3)) ⟨kx, acc, hacc, by simpa using dacc⟩ (fun j Hy _ hy => sqT_ex hy.1 hb1) (fun j z Hy H' hj hy yy => ?_) fun Hy hy => ?_
    · obtain ⟨rfl, e⟩ := yy
      obtain ⟨y, hy', rfl⟩ := nI_at e
      obtain ⟨ky, acc, hacc, dacc⟩ := hy
      have hyl := lb y (List.mem_of_getElem? hy')
      obtain ⟨r, ys, h1, h2, h3⟩ := hrow x hxl
      refine ⟨rfl, _, rfl, _, rfl, r0, _, _, _, rfl, rfl, sqL_ex ky hr0, atI_nat h1, _, rfl, r, _, _, _, rfl, rfl, sqL_ex ky h2, atI_nat (h3 y hyl), _, rfl, _, rfl, by show 3 ≤ sizeLine; decide, fun q hq => ?_⟩
      have neq : D ≠ q := ne_of_none hacc hq
      have hlen : acc.length ≤ 100 := by
        rw [dpAll_length dacc, List.length_map, List.length_append, List.length_map, List.length_flatMap]
        have h1 : ((a.take i).map fun x => (b.map fun y => trip t x y).length).sum ≤ i * 10 := by
          have : ∀ l : List Nat, (l.map fun x => (b.map fun y => trip t x y).length).sum ≤ l.length * 10 := by
            intro l
            induction l with
            | nil => simp
            | cons c l ih =>
              simp only [List.map_cons, List.sum_cons, List.length_cons, List.length_map] at ih ⊢
              omega
          refine Nat.le_trans (this _) (Nat.mul_le_mul_right _ ?_)
          rw [List.length_take]
          exact Nat.min_le_left _ _
        have h2 : i < a.length := by rw [List.length_map] at hi; exact hi
        have h3 : j < b.length := by rw [List.length_map] at hj; exact hj
        rw [List.length_take]
        omega
      refine ⟨acc, by rw [upd_ne neq]; exact hacc, small1000 (by omega), (ky.new hq).loc hD, acc ++ [.ref q], upd_same, ?_⟩
      have kS : Kp (fun b => b = D) H' (upd (upd H' q (.tup [nI (gap t x y), nI x, nI y])) D (.lst (acc ++ [.ref q]))) := (Ex.one hq).kp.put rfl fun u hu => by
        rw [hacc] at hu
        cases hu
        exact fun z => z
      have tq : upd (upd H' q (.tup [nI (gap t x y), nI x, nI y])) D (.lst (acc ++ [.ref q])) q = some (.tup [nI (gap t x y), nI x, nI y]) := by rw [upd_ne neq.symm]; exact upd_same
      have e1 : ((((a.take i).flatMap fun x => b.map fun y => trip t x y) ++ (b.take (j + 1)).map fun y => trip t x y).map tr3) = ((((a.take i).flatMap fun x => b.map fun y => trip t x y) ++ (b.take j).map fun y => trip t x y).map tr3) ++ [tr3 (trip t x y)] := by
        rw [List.take_add_one, hy']
        simp
      rw [e1]
      exact dpAll_append (dpAll_kp kS _ _ (flat3s _) dacc) (.cons (.tup (SqT.of tq) (.cons (.int _) (.cons (.int _) (.cons (.int _) .nil)))) .nil)
    · obtain ⟨ky, acc, hacc, dacc⟩ := hy
      refine ⟨ky, acc, hacc, ?_⟩
      rw [List.length_map, List.take_length] at dacc
      rw [List.take_add_one, hx', List.flatMap_append]
      simpa using dacc
  · obtain ⟨kx, acc, hacc, dacc⟩ := hx
    rw [List.length_map, List.take_length] at dacc
    refine ⟨D, acc, _, rfl, SqL.of hacc, dacc, ?_, fun m hm hmin v hv => ?_⟩
    · obtain ⟨x, hx⟩ := List.exists_mem_of_ne_nil a na
      obtain ⟨y, hy⟩ := List.exists_mem_of_ne_nil b nb
      exact List.ne_nil_of_mem (List.mem_flatMap.mpr ⟨x, hx, List.mem_map.mpr ⟨y, hy, rfl⟩⟩)
    · obtain ⟨x, hx, hm⟩ := List.mem_flatMap.mp hm
      obtain ⟨y, hy, rfl⟩ := List.mem_map.mp hm
      have e : gap t x y = lg t a b := (lg_is ⟨x, hx, y, hy, rfl⟩ fun x' hx' y' hy' => by
        have := hmin (trip t x' y') (List.mem_flatMap.mpr ⟨x', hx', List.mem_map.mpr ⟨y', hy', rfl⟩⟩)
        exact Int.ofNat_le.mp this).symm
      obtain ⟨p, ws, rfl, hp, hw⟩ := dp_T (ds := [.int ((gap t x y : Nat) : Int), .int (x : Int), .int (y : Int)]) hv
      have ew := dpAll_ints (ns := [gap t x y, x, y]) hw
      subst ew
      refine hQ Hx p (nI x) (nI y) kx ?_
      rw [← e]
      exact hp
end
end J

set_option Elab.async false
set_option linter.all false
set_option maxRecDepth 100000
set_option maxHeartbeats 4000000
/-! JC: World, check_world, makes_part, is_part, part_far, part_hull. -/
namespace J
open PySem PySem.Spec PyProof.Rows L2
/-- what is known of the class World at CW -/
structure TW (K : PySem.W.Frag) (mg : Str → Option Value) (CW : Addr) : Prop where
  ins : C8.InsC K CW
  n1 : NoAttr K CW "trees"
  n2 : NoAttr K CW "tables"
  g : mg "World" = some (.ref CW)
def encTs (ts : List Tree) : PyData := .tuple (ts.map encB)
def encTb (ts : List Tree) : PyData := .list (ts.map fun t => encR (gapsL t))
/-- a World at w0, of the trees ts -/
def WorldAt (K : PySem.W.Frag) (CW : Addr) (H : Hp) (w0 : Addr) (ts : List Tree) : Prop := ∃ dx vt vb, H w0 = some (.ins CW dx [("trees", vt), ("tables", vb)]) ∧ Dp K H vt (encTs ts) ∧ Dp K H vb (encTb ts) ∧ TsOk ts ∧ 1 ≤ ts.length ∧ ts.length ≤ 4
theorem WorldAt.ex {K : PySem.W.Frag} {CW : Addr} {H H' : Hp} {w0 : Addr} {ts : List Tree} (k : Ex H H') (h : WorldAt K CW H w0 ts) : WorldAt K CW H' w0 ts := by
  obtain ⟨dx, vt, vb, h1, h2, h3, h4⟩ := h
  exact ⟨dx, vt, vb, k _ _ h1, dp_ex k _ _ h2, dp_ex k _ _ h3, h4⟩
theorem encTs_P (ts : List Tree) : encTs ts = encP ts := rfl
theorem dpAll_B {K : PySem.W.Frag} {H : Hp} {P : List (List Nat)} {xs : List V} {i : Nat} {x : V} (h : DpAll K H xs (P.map encB)) (e : xs[i]? = some x) : ∃ b, P[i]? = some b ∧ Dp K H x (encB b) := by
  obtain ⟨d, hd, hx⟩ := dpAll_get' h e
  rw [List.getElem?_map] at hd
  obtain ⟨b, hb, eb⟩ := Option.map_eq_some_iff.mp hd
  exact ⟨b, hb, by rw [eb]; exact hx⟩
theorem dp_P {K : PySem.W.Frag} {H : Hp} {v : V} {P : Part} (h : Dp K H v (encP P)) : ∃ a xs, v = .ref a ∧ SqT K H a xs ∧ DpAll K H xs (P.map encB) := dp_T h
theorem POk.at : ∀ {T : List Tree} {P : Part} {i : Nat} {t : Tree} {b : List Nat}, POk T P → T[i]? = some t → P[i]? = some b → BrOk t b
  | t :: T, b :: P, 0, _, _, h, e1, e2 => by
    simp only [List.getElem?_cons_zero, Option.some.injEq] at e1 e2
    subst e1 e2
    exact h.1
  | t :: T, b :: P, i + 1, _, _, h, e1, e2 => POk.at (T := T) (P := P) h.2 (by simpa using e1) (by simpa using e2)
  | [], [], _, _, _, _, e1, _ => by simp at e1
  | [], _ :: _, _, _, _, h, _, _ => h.elim
  | _ :: _, [], _, _, _, h, _, _ => h.elim
theorem far_step : ∀ {T : List Tree} {P Q : Part} {i : Nat} {t : Tree} {a b : List Nat}, T[i]? = some t → P[i]? = some a → Q[i]? = some b → far (T.take (i + 1)) (P.take (i + 1)) (Q.take (i + 1)) = far (T.take i) (P.take i) (Q.take i) + lg t a b
  | t :: T, a :: P, b :: Q, 0, _, _, _, e1, e2, e3 => by
    simp only [List.getElem?_cons_zero, Option.some.injEq] at e1 e2 e3
    subst e1 e2 e3
    simp [far]
  | t :: T, a :: P, b :: Q, i + 1, _, _, _, e1, e2, e3 => by
    have ih := far_step (T := T) (P := P) (Q := Q) (i := i) (by simpa using e1) (by simpa using e2) (by simpa using e3)
    simp only [List.take_succ_cons, far]
    omega
  | [], _, _, _, _, _, _, e1, _, _ => by simp at e1
  | _ :: _, [], _, _, _, _, _, _, e2, _ => by simp at e2
  | _ :: _, _ :: _, [], _, _, _, _, _, _, e3 => by simp at e3
theorem hull_at : ∀ {T : List Tree} {P Q : Part} {i : Nat} {t : Tree} {a b : List Nat}, T[i]? = some t → P[i]? = some a → Q[i]? = some b → (hull T P Q)[i]? = some (around t (a ++ b))
  | t :: T, a :: P, b :: Q, 0, _, _, _, e1, e2, e3 => by
    simp only [List.getElem?_cons_zero, Option.some.injEq] at e1 e2 e3
    subst e1 e2 e3
    rfl
  | t :: T, a :: P, b :: Q, i + 1, _, _, _, e1, e2, e3 => by
    have ih := hull_at (T := T) (P := P) (Q := Q) (i := i) (by simpa using e1) (by simpa using e2) (by simpa using e3)
    simpa [hull] using ih
  | [], _, _, _, _, _, _, e1, _, _ => by simp at e1
  | _ :: _, [], _, _, _, _, _, _, e2, _ => by simp at e2
  | _ :: _, _ :: _, [], _, _, _, _, _, _, e3 => by simp at e3
theorem hull_len : ∀ {T : List Tree} {P Q : Part}, P.length = T.length → Q.length = T.length → (hull T P Q).length = T.length
  | [], _, _, _, _ => rfl
  | t :: T, a :: P, b :: Q, h1, h2 => by
    simp only [List.length_cons] at h1 h2
    simp only [hull, List.length_cons]
    rw [hull_len (T := T) (P := P) (Q := Q) (by omega) (by omega)]
  | _ :: _, [], _, h1, _ => by simp at h1
  | _ :: _, _ :: _, [], _, h2 => by simp at h2
section
variable {P : Program} {w : World} {K : PySem.W.Frag} {mg : Str → Option Value} {base : Heap} {f : Addr} {fd : FuncData} {CW : Addr}
theorem tyX_ins {H : Hp} {a C dx : Addr} {fs : List (Str × V)} (c : C8.InsC K C) (h : H a = some (.ins C dx fs)) : TyX K H (.ref a) (.ref C) := .base (.ins h c.cl c.ha c.hn c.htk c.hm)
abbrev N_check_world : List Str := ["thing"]
theorem sc_check_world : FnScope N_check_world ["thing"] (defScope s_check_world) := C8.fnScope_by (by decide +kernel)
def spCheckW (K : PySem.W.Frag) (CW : Addr) : Sp := fun vs H Q _ => ∃ w0 dx fs, vs = [.ref w0] ∧ H w0 = some (.ins CW dx fs) ∧ Q .non H
theorem ok_check_world (T : Txt mg) (W : TW K mg CW) (F : FnP K "check_world" s_check_world f fd) (g : mg "check_world" = some (.ref f)) : Cal P w K mg base 1 "check_world" (spCheckW K CW) := by
  have nd := sc_check_world.nd
  have g_World : ∃ u, mg "World" = some u ∧ RelV (.ref CW) u := ⟨_, W.g, rfl⟩
  refine mkCal F g (F.bindsN fun _ _ _ _ _ _ us hl => match us, hl with | [_], _ => rfl) sc_check_world (fun vs H Q E ⟨_, _, _, h, _⟩ => by rw [h]; rfl) fun cdv A outer s H vs Q E hcd hr ⟨w0, dx, fs, hv, hw, hQ⟩ => ⟨_, (pss_one (ps_if (pt_not (pt_val (pe_callB (k_isi (K := K)) rfl T.isi bt_isi (pa_cons (pv 0) (pa_cons (C8.pe_gc rfl g_World) pa_nil))))) (pss_one ps_never) pss_nil)), ?_⟩
  subst hv
  exact ⟨_, rfl, _, _, _, _, true, rfl, .own _, tyX_ins W.ins hw, W.ins.me, true, rfl, hQ⟩

abbrev N_makes_part : List Str := ["world", "thing", "tree", "branch"]
theorem sc_makes_part : FnScope N_makes_part ["world", "thing"] (defScope s_makes_part) := C8.fnScope_by (by decide +kernel)
def spMakes (K : PySem.W.Frag) (CW : Addr) : Sp := fun vs H Q _ => ∃ w0 v ts Pt, vs = [.ref w0, v] ∧ WorldAt K CW H w0 ts ∧ Dp K H v (encP Pt) ∧ POk ts Pt ∧ ∀ H', Ex H H' → Q (.bl true) H'
theorem ok_makes_part (T : Txt mg) (W : TW K mg CW) (F : FnP K "makes_part" s_makes_part f fd) (g : mg "makes_part" = some (.ref f)) (c_hangs_together : Cal P w K mg base 3 "hangs_together" (spHang K)) : Cal P w K mg base 4 "makes_part" (spMakes K CW) := by
  have nd := sc_makes_part.nd
  refine mkCal F g (F.bindsN fun _ _ _ _ _ _ us hl => match us, hl with | [_, _], _ => rfl) sc_makes_part (fun vs H Q E ⟨_, _, _, _, h, _⟩ => by rw [h]; rfl) fun cdv A outer s H vs Q E hcd hr ⟨w0, v, ts, Pt, hv, hw, hp, ok, hQ⟩ => ⟨_, (pss_cons (ps_if (PW.pt (pw_or (pt_not (pt_val (pe_callB (k_isi (K := K)) rfl T.isi bt_isi (pa_cons (pv 1) (pa_cons (pe_bltn (v := .ty "tuple") rfl T.tuple bt_tuple rfl) pa_nil))))) (pw_or1 (pt_cmpR op_ne (pe_callB (k_len (K := K)) rfl T.len bt_len (pa_cons (pv 1) pa_nil)) (pe_callB (k_len (K := K)) rfl T.len bt_len (pa_cons (kpe_fld (K := K) (pv 0) rfl) pa_nil)) (nomark _))))) (pss_one (ps_ret pe_bl)) pss_nil)
    (pss_one (ps_ret (pe_callB (k_all (K := K) rfl) rfl T.all bt_all (pa_cons (pe_lc (own := [("tree", 2), ("branch", 3)]) (g := (gTup K 2 (gCons (gName 2) (gCons (gName 3) gNil)))) rfl nd (pi_zip2 true true rfl T.zip (pa_cons (kpe_fld (K := K) (pv 0) rfl) (pa_cons (pv 1) pa_nil))) (blkOk_by (N := N_makes_part) (sc := defScope s_makes_part) (by decide +kernel)) (fun _ _ _ _ _ => (pg_tup rfl (pgs_cons (pg_name (i := 2) nd rfl (Or.inl rfl)) (pgs_cons (pg_name (i := 3) nd rfl (Or.inl rfl)) pgs_nil)))) (fun _ _ _ _ _ => pts_nil) (fun _ _ _ _ _ => (C8.pe_c c_hangs_together hr (by decide) rfl (pa_cons (pv 2) (pa_cons (pv 3) pa_nil))))) pa_nil))))), ?_⟩
  subst hv
  obtain ⟨dx, vt, vb, hw1, hw2, hw3, hts, hl1, hl4⟩ := hw
  obtain ⟨a1, xs, rfl, ha1, da1⟩ := dp_T hw2
  obtain ⟨a2, ys, rfl, ha2, da2⟩ := dp_P hp
  have lx : xs.length = ts.length := by rw [dpAll_length da1, List.length_map]
  have ly : ys.length = ts.length := by rw [dpAll_length da2, List.length_map, ok.length]
  refine ⟨_, rfl, _, _, _, _, true, rfl, .ty _, tyX_tup ha2, kit_tt, true, rfl, ?_⟩
  refine ⟨_, rfl, a2, _, rfl, .inr ha2, _, rfl, w0, CW, dx, _, _, rfl, hw1, W.ins.cl, W.n1, rfl, a1, _, rfl, .inr ha1, rfl, false, ?_, ?_⟩
  · show V.bl (!decide (V.int (ys.length : Int) = V.int (xs.length : Int))) = V.bl false
    rw [lx, ly]
    simp
  refine ⟨_, rfl, w0, CW, dx, _, _, rfl, hw1, W.ins.cl, W.n1, rfl, _, rfl, a1, a2, xs, ys, rfl, ha1, ha2, fun D hD => ?_⟩
  refine lcE (walk_zip2 (t1 := true) (t2 := true) (xs := xs) (ys := ys) rfl) (fun i => Pt[i]?) (fun _ v _ => v = .bl true) (by omega) hD (fun H k => ⟨sqT_ex k ha1, sqT_ex k ha2⟩) (fun _ _ _ _ _ h => h) (fun i z H2 H' QF QT hi k hys yy q1 q2 => ?_) fun H2 ys k hys pr => ?_
  · obtain ⟨Tp, x1, x2, rfl, hT, rfl, e1, e2⟩ := yy
    obtain ⟨t, ht, d1⟩ := dpAll_B da1 e1
    obtain ⟨b, hb, d2⟩ := dpAll_B da2 e2
    have k2 := k.new (o := .tup [x1, x2]) hT
    refine ⟨Tp, [x1, x2], rfl, SqT.of upd_same, rfl, _, _, rfl, ?_⟩
    refine ⟨_, _, rfl, rfl, rfl, ?_⟩
    exact ⟨_, rfl, _, rfl, x1, t, x2, b, rfl, dp_ex k2 _ _ d1, dp_ex k2 _ _ d2, hts t (List.mem_of_getElem? ht), ok.at ht hb, fun H4 k4 => q2 b hb _ _ ((Ex.one hT).trans k4) rfl⟩
  · refine ⟨D, _, rfl, SqL.of (by rw [← paired_all_true (Hh := H2) pr]; exact hys), ?_⟩
    rw [all_rep]
    exact hQ H2 k

abbrev N_is_part : List Str := ["world", "thing"]
theorem sc_is_part : FnScope N_is_part ["world", "thing"] (defScope s_is_part) := C8.fnScope_by (by decide +kernel)
theorem ok_is_part (T : Txt mg) (W : TW K mg CW) (F : FnP K "is_part" s_is_part f fd) (g : mg "is_part" = some (.ref f)) (c_check_world : Cal P w K mg base 1 "check_world" (spCheckW K CW)) (c_makes_part : Cal P w K mg base 4 "makes_part" (spMakes K CW)) : Cal P w K mg base 5 "is_part" (spMakes K CW) := by
  have nd := sc_is_part.nd
  refine mkCal F g (F.bindsN fun _ _ _ _ _ _ us hl => match us, hl with | [_, _], _ => rfl) sc_is_part (fun vs H Q E ⟨_, _, _, _, h, _⟩ => by rw [h]; rfl) fun cdv A outer s H vs Q E hcd hr ⟨w0, v, ts, Pt, hv, hw, hp, ok, hQ⟩ => ⟨_, (pss_cons (ps_expr (C8.pe_c c_check_world hr (by decide) rfl (pa_cons (pv 0) pa_nil)))
    (pss_one (ps_ret (C8.pe_c c_makes_part hr (by decide) rfl (pa_cons (pv 0) (pa_cons (pv 1) pa_nil)))))), ?_⟩
  subst hv
  obtain ⟨dx, vt, vb, hw1, hw2⟩ := id hw
  exact ⟨_, rfl, w0, dx, _, rfl, hw1, _, rfl, _, rfl, w0, v, ts, Pt, rfl, hw, hp, ok, hQ⟩

abbrev N_part_far : List Str := ["world", "one", "other", "many", "rows", "here", "there"]
theorem sc_part_far : FnScope N_part_far ["world", "one", "other"] (defScope s_part_far) := C8.fnScope_by (by decide +kernel)
def spFar (K : PySem.W.Frag) (CW : Addr) : Sp := fun vs H Q _ => ∃ w0 v u ts P1 P2, vs = [.ref w0, v, u] ∧ WorldAt K CW H w0 ts ∧ Dp K H v (encP P1) ∧ Dp K H u (encP P2) ∧ POk ts P1 ∧ POk ts P2 ∧ ∀ H', Ex H H' → Q (nI (far ts P1 P2)) H'
theorem ok_part_far (T : Txt mg) (W : TW K mg CW) (F : FnP K "part_far" s_part_far f fd) (g : mg "part_far" = some (.ref f)) (c_least_gap : Cal P w K mg base 1 "least_gap" (spLeast K)) : Cal P w K mg base 2 "part_far" (spFar K CW) := by
  have nd := sc_part_far.nd
  refine mkCal F g (F.bindsN fun _ _ _ _ _ _ us hl => match us, hl with | [_, _, _], _ => rfl) sc_part_far (fun vs H Q E ⟨_, _, _, _, _, _, h, _⟩ => by rw [h]; rfl) fun cdv A outer s H vs Q E hcd hr ⟨w0, v, u, ts, P1, P2, hv, hw, hp1, hp2, ok1, ok2, hQ⟩ => ⟨_, (pss_cons (ps_set (i := 3) nd rfl (Or.inl rfl) pe_int)
    (pss_cons (ps_for PassesOwn.never rfl (pi_zip3 false true true rfl T.zip (pa_cons (kpe_fld (K := K) (pv 0) rfl) (pa_cons (pv 1) (pa_cons (pv 2) pa_nil)))) (pg_tup rfl (pgs_cons (pg_name (i := 4) nd rfl (Or.inl rfl)) (pgs_cons (pg_name (i := 5) nd rfl (Or.inl rfl)) (pgs_cons (pg_name (i := 6) nd rfl (Or.inl rfl)) pgs_nil)))) (pss_one (ps_aug (i := 3) nd rfl (Or.inl rfl) (pe_ix (k_ixT (K := K)) (C8.pe_c c_least_gap hr (by decide) rfl (pa_cons (pv 4) (pa_cons (pv 5) (pa_cons (pv 6) pa_nil)))) pe_int (fun _ _ => rfl)) ip_add)))
    (pss_one (ps_ret (pv 3))))), ?_⟩
  subst hv
  obtain ⟨dx, vt, vb, hw1, hw2, hw3, hts, hl1, hl4⟩ := hw
  obtain ⟨a0, zs, rfl, ha0, da0⟩ := dp_L hw3
  obtain ⟨a1, xs, rfl, ha1, da1⟩ := dp_P hp1
  obtain ⟨a2, ys, rfl, ha2, da2⟩ := dp_P hp2
  have lz : zs.length = ts.length := by rw [dpAll_length da0, List.length_map]
  have lx : xs.length = ts.length := by rw [dpAll_length da1, List.length_map, ok1.length]
  have ly : ys.length = ts.length := by rw [dpAll_length da2, List.length_map, ok2.length]
  refine ⟨_, rfl, w0, CW, dx, _, _, rfl, hw1, W.ins.cl, W.n2, rfl, _, rfl, _, rfl, a0, a1, a2, zs, xs, ys, rfl, ha0, ha1, ha2, ?_⟩
  refine for_it (walk_zip3 (t1 := false) (t2 := true) (t3 := true) (n := ts.length) (by omega)) (fun i σ Hx => Ex H Hx ∧ ∃ x y z, σ = [some (.ref w0), some (.ref a1), some (.ref a2), some (nI (far (ts.take i) (P1.take i) (P2.take i))), x, y, z]) ⟨Ex.refl, _, _, _, rfl⟩ (fun i σ Hx _ hx => ⟨sqL_ex hx.1 ha0, sqT_ex hx.1 ha1, sqT_ex hx.1 ha2⟩) (fun i z σ Hx H' hi hx yy => ?_) fun σ Hx hx => ?_
  · obtain ⟨k, s1, s2, s3, rfl⟩ := hx
    obtain ⟨Tp, y1, y2, y3, rfl, hT, rfl, e1, e2, e3⟩ := yy
    obtain ⟨d, hd, d1⟩ := dpAll_get' da0 e1
    rw [List.getElem?_map] at hd
    obtain ⟨t, ht, ed⟩ := Option.map_eq_some_iff.mp hd
    subst ed
    obtain ⟨b1, hb1, d2⟩ := dpAll_B da1 e2
    obtain ⟨b2, hb2, d3⟩ := dpAll_B da2 e3
    have o1 := ok1.at ht hb1
    have o2 := ok2.at ht hb2
    have tok := hts t (List.mem_of_getElem? ht)
    have l1 := br_len tok o1
    have l2 := br_len tok o2
    have k2 := k.new (o := .tup [y1, y2, y3]) hT
    refine ⟨Tp, _, rfl, SqT.of upd_same, rfl, _, _, rfl, _, _, rfl, _, _, rfl, rfl, ?_⟩
    refine ⟨_, rfl, _, rfl, _, rfl, _, rfl, y1, t, y2, y3, b1, b2, rfl, dp_ex k2 _ _ d1, dp_ex k2 _ _ d2, dp_ex k2 _ _ d3, o1.le, o2.le, o1.ne, o2.ne, by omega, by omega, fun H4 p x y k4 hp => ?_⟩
    refine ⟨p, _, _, _, rfl, rfl, hp, rfl, _, _, rfl, rfl, k2.trans k4, some y1, some y2, some y3, ?_⟩
    rw [far_step ht hb1 hb2]
    rfl
  · obtain ⟨k, s1, s2, s3, rfl⟩ := hx
    refine ⟨_, rfl, ?_⟩
    rw [List.take_of_length_le (Nat.le_refl _), List.take_of_length_le (by rw [ok1.length]; exact Nat.le_refl _), List.take_of_length_le (by rw [ok2.length]; exact Nat.le_refl _)]
    exact hQ Hx k

abbrev N_part_hull : List Str := ["world", "one", "other", "found", "tree", "here", "there"]
theorem sc_part_hull : FnScope N_part_hull ["world", "one", "other"] (defScope s_part_hull) := C8.fnScope_by (by decide +kernel)
def spHull (K : PySem.W.Frag) (CW : Addr) : Sp := fun vs H Q _ => ∃ w0 v u ts P1 P2, vs = [.ref w0, v, u] ∧ WorldAt K CW H w0 ts ∧ Dp K H v (encP P1) ∧ Dp K H u (encP P2) ∧ POk ts P1 ∧ POk ts P2 ∧ ∀ H' y, Ex H H' → Dp K H' y (encP (hull ts P1 P2)) → Q y H'
theorem ok_part_hull (T : Txt mg) (W : TW K mg CW) (F : FnP K "part_hull" s_part_hull f fd) (g : mg "part_hull" = some (.ref f)) (c_branch_around : Cal P w K mg base 3 "branch_around" (spAround K)) : Cal P w K mg base 4 "part_hull" (spHull K CW) := by
  have nd := sc_part_hull.nd
  refine mkCal F g (F.bindsN fun _ _ _ _ _ _ us hl => match us, hl with | [_, _, _], _ => rfl) sc_part_hull (fun vs H Q E ⟨_, _, _, _, _, _, h, _⟩ => by rw [h]; rfl) fun cdv A outer s H vs Q E hcd hr ⟨w0, v, u, ts, P1, P2, hv, hw, hp1, hp2, ok1, ok2, hQ⟩ => ⟨_, (pss_cons (ps_set (i := 3) nd rfl (Or.inl rfl) (pe_lst pa_nil))
    (pss_cons (ps_for PassesOwn.never rfl (pi_zip3 true true true rfl T.zip (pa_cons (kpe_fld (K := K) (pv 0) rfl) (pa_cons (pv 1) (pa_cons (pv 2) pa_nil)))) (pg_tup rfl (pgs_cons (pg_name (i := 4) nd rfl (Or.inl rfl)) (pgs_cons (pg_name (i := 5) nd rfl (Or.inl rfl)) (pgs_cons (pg_name (i := 6) nd rfl (Or.inl rfl)) pgs_nil)))) (pss_one (ps_expr (pe_bm PySem.F.plainAttrs_list PySem.F.slot_list_append PySem.F.type_list_append mt_append (pv 3) (pa_cons (C8.pe_c c_branch_around hr (by decide) rfl (pa_cons (pv 4) (pa_cons (pe_op (k_catA (K := K)) (pv 5) (pv 6)) pa_nil))) pa_nil)))))
    (pss_one (ps_ret (pe_callTy (k_tuple (K := K)) rfl T.tuple bt_tuple (pa_cons (pv 3) pa_nil)))))), ?_⟩
  subst hv
  obtain ⟨dx, vt, vb, hw1, hw2, hw3, hts, hl1, hl4⟩ := hw
  obtain ⟨a0, zs, rfl, ha0, da0⟩ := dp_T hw2
  obtain ⟨a1, xs, rfl, ha1, da1⟩ := dp_P hp1
  obtain ⟨a2, ys, rfl, ha2, da2⟩ := dp_P hp2
  have lz : zs.length = ts.length := by rw [dpAll_length da0, List.length_map]
  have lx : xs.length = ts.length := by rw [dpAll_length da1, List.length_map, ok1.length]
  have ly : ys.length = ts.length := by rw [dpAll_length da2, List.length_map, ok2.length]
  refine ⟨by show 0 ≤ sizeLine; exact Nat.zero_le _, fun D hD => ?_⟩
  have k0 : Ex H (upd H D (.lst [])) := Ex.one hD
  refine ⟨_, rfl, w0, CW, dx, _, _, rfl, k0 _ _ hw1, W.ins.cl, W.n1, rfl, _, rfl, _, rfl, a0, a1, a2, zs, xs, ys, rfl, sqT_ex k0 ha0, sqT_ex k0 ha1, sqT_ex k0 ha2, ?_⟩
  refine for_it (walk_zip3 (t1 := true) (t2 := true) (t3 := true) (n := ts.length) (by omega)) (fun i σ Hx => Ex H Hx ∧ (∃ acc, Hx D = some (.lst acc) ∧ DpAll K Hx acc (((hull ts P1 P2).take i).map encB)) ∧ ∃ x y z, σ = [some (.ref w0), some (.ref a1), some (.ref a2), some (.ref D), x, y, z]) ⟨k0, ⟨[], upd_same, .nil⟩, _, _, _, rfl⟩ (fun i σ Hx _ hx => ⟨sqT_ex hx.1 ha0, sqT_ex hx.1 ha1, sqT_ex hx.1 ha2⟩) (fun i z σ Hx H' hi hx yy => ?_) fun σ Hx hx => ?_
  · obtain ⟨k, ⟨acc, hacc, dacc⟩, s1, s2, s3, rfl⟩ := hx
    obtain ⟨Tp, y1, y2, y3, rfl, hT, rfl, e1, e2, e3⟩ := yy
    obtain ⟨t, ht, d1⟩ := dpAll_B da0 e1
    obtain ⟨b1, hb1, d2⟩ := dpAll_B da1 e2
    obtain ⟨b2, hb2, d3⟩ := dpAll_B da2 e3
    have o1 := ok1.at ht hb1
    have o2 := ok2.at ht hb2
    have tok := hts t (List.mem_of_getElem? ht)
    have l1 := br_len tok o1
    have l2 := br_len tok o2
    have k2 := k.new (o := .tup [y1, y2, y3]) hT
    have hacc2 : upd Hx Tp (.tup [y1, y2, y3]) D = some (.lst acc) := by rw [upd_ne (ne_of_none hacc hT)]; exact hacc
    have da2' := dpAll_ex (Ex.one (o := .tup [y1, y2, y3]) hT) _ _ dacc
    obtain ⟨c1, rfl, hc1⟩ := dp_B (dp_ex k2 _ _ d2)
    obtain ⟨c2, rfl, hc2⟩ := dp_B (dp_ex k2 _ _ d3)
    refine ⟨Tp, _, rfl, SqT.of upd_same, rfl, _, _, rfl, _, _, rfl, _, _, rfl, rfl, ?_⟩
    refine ⟨_, rfl, .inl ⟨rfl, _, SqL.of hacc2⟩, ?_⟩
    refine ⟨_, rfl, _, rfl, _, rfl, c1, c2, _, _, rfl, rfl, hc1, hc2, by rw [List.length_map, List.length_map]; exact Nat.le_of_lt (small1000 (by omega)), fun z => absurd (List.map_eq_nil_iff.mp z) o1.ne, fun _ z => absurd (List.map_eq_nil_iff.mp z) o2.ne, fun _ _ q hq => ?_⟩
    have k3 := k2.new (o := .tup (b1.map nI ++ b2.map nI)) hq
    obtain ⟨f0, os, e⟩ : ∃ f0 os, b1 ++ b2 = f0 :: os := by
      cases b1 with
      | nil => exact absurd rfl o1.ne
      | cons f0 r => exact ⟨f0, r ++ b2, rfl⟩
    have hle : ∀ x ∈ b1 ++ b2, x ≤ t.length := fun x hx => by
      rcases List.mem_append.mp hx with h | h
      · exact o1.le x h
      · exact o2.le x h
    have hlen : (b1 ++ b2).length ≤ 12 := by rw [List.length_append]; omega
    rw [e] at hle hlen
    refine ⟨y1, t, .ref q, f0, os, rfl, dp_ex k3 _ _ d1, B_dp ?_, tok, hle f0 List.mem_cons_self, fun o ho => hle o (List.mem_cons_of_mem _ ho), by simp only [List.length_cons] at hlen; omega, fun H4 y k4 hy => ?_⟩
    · rw [← e, List.map_append]
      exact SqT.of upd_same
    have hD4 := k4 _ _ ((Ex.one (o := .tup (b1.map nI ++ b2.map nI)) hq) _ _ hacc2)
    have hal : acc.length ≤ 4 := by
      rw [dpAll_length dacc, List.length_map, List.length_take]
      exact Nat.le_trans (Nat.min_le_left _ _) (by omega)
    refine ⟨D, acc, y, rfl, rfl, hD4, small1000 (by omega), ?_⟩
    have kS : Kp (fun b => b = D) H4 (upd H4 D (.lst (acc ++ [y]))) := Kp.refl.put rfl fun u hu => by
      rw [hD4] at hu
      cases hu
      exact fun z => z
    refine ⟨(k3.trans k4).loc hD, ⟨_, upd_same, ?_⟩, some y1, some (.ref c1), some (.ref c2), rfl⟩
    rw [List.take_add_one, hull_at ht hb1 hb2, List.map_append]
    refine dpAll_append (dpAll_kp kS _ _ (flat_Bs _) (dpAll_ex ((Ex.one hq).trans k4) _ _ da2')) (.cons ?_ .nil)
    rw [e]
    exact dp_kp kS _ _ (flat_B _) hy
  · obtain ⟨k, ⟨acc, hacc, dacc⟩, s1, s2, s3, rfl⟩ := hx
    rw [List.take_of_length_le (by rw [hull_len ok1.length ok2.length]; exact Nat.le_refl _)] at dacc
    refine ⟨_, rfl, D, acc, rfl, .inl ⟨SqL.of hacc, fun l hl => ?_⟩⟩
    exact hQ _ (.ref l) (k.new hl) (.tup (SqT.of upd_same) (dpAll_ex (Ex.one hl) _ _ dacc))
end
end J

set_option Elab.async false
set_option linter.all false
set_option maxRecDepth 100000
set_option maxHeartbeats 4000000
/-! JD: World.__init__, is_name, check_reach, name_fits, reach_fits. -/
namespace J
open PySem PySem.Spec PyProof.Rows L2
def minus (G : Hp) (D : Addr) : Hp := fun a => if a = D then none else G a
theorem minus_of {G : Hp} {D a : Addr} {o : HO} (h : minus G D a = some o) : a ≠ D ∧ G a = some o := by
  unfold minus at h
  by_cases e : a = D
  · rw [if_pos e] at h
    cases h
  · rw [if_neg e] at h
    exact ⟨e, h⟩
theorem minus_at {G : Hp} {D a : Addr} {o : HO} (n : a ≠ D) (h : G a = some o) : minus G D a = some o := by
  unfold minus
  rw [if_neg n]
  exact h
theorem dpAll_tabs {K : PySem.W.Frag} {H : Hp} : ∀ {ts : List Tree} {ys : List V}, Paired (fun (t : Tree) (v : V) => Dp K H v (encR (gapsL t))) ts ys → DpAll K H ys (ts.map fun t => encR (gapsL t))
  | _, _, .nil => .nil
  | _, _, .cons h t => .cons h (dpAll_tabs t)
section
variable {P : Program} {w : World} {K : PySem.W.Frag} {mg : Str → Option Value} {base : Heap} {f : Addr} {fd : FuncData} {CW : Addr}
abbrev N_World_init : List Str := ["self", "trees", "number", "tree"]
theorem sc_World_init : FnScope N_World_init ["self", "trees"] (defScope s_World_init) := C8.fnScope_by (by decide +kernel)
def spWorldI (K : PySem.W.Frag) (CW : Addr) : Sp := fun vs H Q _ => ∃ x dx v ts, vs = [.ref x, v] ∧ H x = some (.ins CW dx []) ∧ Dp K H v (encTs ts) ∧ TsOk ts ∧ 1 ≤ ts.length ∧ ts.length ≤ 4 ∧
  ∀ H' vb, Kp (fun a => a = x) H H' → H' x = some (.ins CW dx [("trees", v), ("tables", vb)]) → Dp K (sub H' H) vb (encTb ts) → Q .non H'
theorem ok_World_init (T : Txt mg) (W : TW K mg CW) (F : FunD K "__init__" "World.__init__" (defArgs s_World_init) (defBody s_World_init) (defScope s_World_init) [] [] f fd) (M : Mk K CW f) (c_is_tree : Cal P w K mg base 3 "is_tree" (spTree K)) (c_gaps : Cal P w K mg base 3 "gaps" (spGaps K)) : C8.Mak P w K mg base 4 "World" CW (spWorldI K CW) [] := by
  have nd := sc_World_init.nd
  refine ⟨f, fd, ["self", "trees"], [], M, fnOk_of F sc_World_init (fun vs H Q E ⟨_, _, _, _, h, _⟩ => by rw [h]; rfl) fun cdv A outer s H vs Q E hcd hr ⟨x, dx, v, ts, hv, hx, hd, hts, l1, l4, hQ⟩ => ⟨_, (pss_cons (ps_if (PW.pt (pw_or (pt_not (pt_val (pe_callB (k_isi (K := K)) rfl T.isi bt_isi (pa_cons (pv 1) (pa_cons (pe_bltn (v := .ty "tuple") rfl T.tuple bt_tuple rfl) pa_nil))))) (pw_or1 (pt_not (pt_chain op_le op_le pe_int (pe_callB (k_len (K := K)) rfl T.len bt_len (pa_cons (pv 1) pa_nil)) (C8.pe_gc rfl T.kMOST_TREES)))))) (pss_one ps_never) pss_nil)
    (pss_cons (ps_for PassesOwn.never rfl (pi_enum2 true rfl T.enum (pa_cons (pv 1) pa_nil)) (pg_tup rfl (pgs_cons (pg_name (i := 2) nd rfl (Or.inl rfl)) (pgs_cons (pg_name (i := 3) nd rfl (Or.inl rfl)) pgs_nil))) (pss_one (ps_if (pt_not (pt_val (C8.pe_c c_is_tree hr (by decide) rfl (pa_cons (pv 3) pa_nil)))) (pss_one ps_never) pss_nil)))
    (pss_cons (ps_fld (pv 0) (pv 1) rfl)
    (pss_one (ps_fld (pv 0) (pe_lc (own := [("tree", 3)]) (g := (gName 3)) rfl nd (kpi_tup (K := K) (pv 1)) (blkOk_by (N := N_World_init) (sc := defScope s_World_init) (by decide +kernel)) (fun _ _ _ _ _ => (pg_name (i := 3) nd rfl (Or.inl rfl))) (fun _ _ _ _ _ => pts_nil) (fun _ _ _ _ _ => (C8.pe_c c_gaps hr (by decide) rfl (pa_cons (pv 3) pa_nil)))) rfl))))), ?_⟩, W.g, F.bindsN fun _ _ _ _ _ _ us hl => match us, hl with | [_, _], _ => rfl, .nil⟩
  subst hv
  obtain ⟨a, xs, rfl, ha, da⟩ := dp_T hd
  have lx : xs.length = ts.length := by rw [dpAll_length da, List.length_map]
  refine ⟨_, rfl, _, _, _, _, true, rfl, .ty _, tyX_tup ha, kit_tt, true, rfl, ?_⟩
  refine ⟨_, rfl, a, _, rfl, .inr ha, _, _, rfl, rfl, true, bT (by omega), _, _, rfl, rfl, true, bT (by omega), ?_⟩
  refine ⟨_, rfl, a, xs, rfl, ha, ?_⟩
  refine for_it walk_enum2 (fun i σ Hx => Ex H Hx ∧ ∃ y z, σ = [some (.ref x), some (.ref a), y, z]) ⟨Ex.refl, _, _, rfl⟩ (fun i σ Hx _ hx => sqT_ex hx.1 ha) (fun i z σ Hx H' hi hxx yy => ?_) fun σ Hx hxx => ?_
  · obtain ⟨k, s1, s2, rfl⟩ := hxx
    obtain ⟨Tp, y1, y2, rfl, hT, rfl, e1, e2⟩ := yy
    obtain ⟨t, ht, d1⟩ := dpAll_B da e2
    have k2 := k.new (o := .tup [y1, y2]) hT
    refine ⟨Tp, _, rfl, SqT.of upd_same, rfl, _, _, rfl, _, _, rfl, rfl, ?_⟩
    exact ⟨_, rfl, y2, t, rfl, dp_ex k2 _ _ d1, hts t (List.mem_of_getElem? ht), fun H4 k4 => ⟨true, rfl, k2.trans k4, _, _, rfl⟩⟩
  · obtain ⟨k, s1, s2, rfl⟩ := hxx
    refine ⟨_, rfl, _, rfl, x, CW, dx, [], rfl, k _ _ hx, W.ins.cl, W.n1, by decide, ?_⟩
    have kp1 : Kp (fun a => a = x) H (upd Hx x (.ins CW dx [("trees", .ref a)])) := k.kp.put rfl fun u hu => by
      rw [hx] at hu
      cases hu
      exact fun z => z
    have ha1 := sqT_kp kp1 ha
    have da1 := dpAll_kp kp1 _ _ (flat_Bs ts) da
    have e1 : upd Hx x (.ins CW dx [("trees", .ref a)]) x = some (.ins CW dx [("trees", .ref a)]) := upd_same
    have nn1 : ∀ b, upd Hx x (.ins CW dx [("trees", .ref a)]) b = none → b ≠ x ∧ H b = none := fun b hb => by
      have ne : b ≠ x := fun z => by
        rw [z, upd_same] at hb
        cases hb
      rw [upd_ne ne] at hb
      exact ⟨ne, k.nn hb⟩
    let H1 : Hp := upd Hx x (.ins CW dx [("trees", .ref a)])
    refine ⟨_, rfl, a, rfl, ⟨_, ha1⟩, fun D hD => ?_⟩
    refine lcE (walk_tup (xs := xs)) (fun i => ts[i]?) (fun t v Hy => Dp K (minus (sub Hy H1) D) v (encR (gapsL t))) (by omega) hD (fun H k => sqT_ex k ha1) (fun t v H2 H3 kk h => dp_ex (fun b o hb => ?_) _ _ h) (fun i z H2 H' QF QT hi k2 hys yy q1 q2 => ?_) fun H2 ys k2 hys pr => ?_
    · obtain ⟨ne, hb⟩ := minus_of hb
      obtain ⟨n1, hb⟩ := sub_of hb
      exact minus_at ne (sub_at n1 (kk b o hb fun z => (ne z).elim))
    · obtain ⟨rfl, e⟩ := yy
      obtain ⟨t, ht, d1⟩ := dpAll_B da1 e
      obtain ⟨ys0, hys⟩ := hys
      refine ⟨rfl, _, rfl, z, t, rfl, dp_ex k2 _ _ d1, hts t (List.mem_of_getElem? ht), fun H4 y k4 hy => q2 t ht _ _ k4 (dp_ex (fun b o hb => ?_) _ _ hy)⟩
      obtain ⟨n1, hb⟩ := sub_of hb
      exact minus_at (fun z => by rw [z, hys] at n1; cases n1) (sub_at (k2.nn n1) hb)
    · have er : (List.range xs.length).filterMap (fun i => ts[i]?) = ts := by rw [lx]; exact List.filterMap_getElem?_range_length ts
      rw [er] at pr
      refine ⟨_, rfl, x, CW, dx, _, rfl, k2 _ _ e1, W.ins.cl, W.n2, (by show 1 < 1000; decide), ?_⟩
      have kp2 : Kp (fun a => a = x) H (upd H2 x (.ins CW dx [("trees", .ref a), ("tables", .ref D)])) := (kp1.trans k2.kp).put rfl fun u hu => by
        rw [hx] at hu
        cases hu
        exact fun z => z
      refine hQ _ (.ref D) kp2 upd_same (.lst (SqL.of (sub_at (nn1 D hD).2 ?_)) (dpAll_tabs (Paired.mapP pr fun t v h => dp_ex (fun b o hb => ?_) _ _ h)))
      · rw [upd_ne (nn1 D hD).1]
        exact hys
      · obtain ⟨ne, hb⟩ := minus_of hb
        obtain ⟨n1, hb⟩ := sub_of hb
        obtain ⟨nx, n0⟩ := nn1 b n1
        exact sub_at n0 (by rw [upd_ne nx]; exact hb)

structure NameOk (z : Str) : Prop where
  pos : 0 < z.length
  le : z.length ≤ 8
  low : ∀ c ∈ z.cps.toList, 97 ≤ c ∧ c ≤ 122
theorem sign_in {c : Nat} (h1 : 97 ≤ c) (h2 : c ≤ 122) : (!(Builtin.Str.occurrences ("abcdefghijklmnopqrstuvwxyz" : Str) (⟨#[c]⟩ : Str) 0 ("abcdefghijklmnopqrstuvwxyz" : Str).length 1).isEmpty) = true := by
  have e : ("abcdefghijklmnopqrstuvwxyz" : Str) = SX.S ((List.range 26).map fun i => i + 97) := by decide +kernel
  rw [e]
  have h := SX.in_one ((List.range 26).map fun i => i + 97) c
  refine h.trans (decide_eq_true (List.mem_map.mpr ⟨c - 97, List.mem_range.mpr (by omega), by omega⟩))
abbrev N_is_name : List Str := ["thing", "sign"]
theorem sc_is_name : FnScope N_is_name ["thing"] (defScope s_is_name) := C8.fnScope_by (by decide +kernel)
def spName : Sp := fun vs H Q _ => ∃ z, vs = [.str z] ∧ NameOk z ∧ ∀ H', Ex H H' → Q (.bl true) H'
theorem ok_is_name (T : Txt mg) (F : FnP K "is_name" s_is_name f fd) (g : mg "is_name" = some (.ref f)) : Cal P w K mg base 1 "is_name" spName := by
  have nd := sc_is_name.nd
  refine mkCal F g (F.bindsN fun _ _ _ _ _ _ us hl => match us, hl with | [_], _ => rfl) sc_is_name (fun vs H Q E ⟨_, h, _⟩ => by rw [h]; rfl) fun cdv A outer s H vs Q E hcd hr ⟨z, hv, ok, hQ⟩ => ⟨_, (pss_one (ps_ret (pe_and (pe_callB (k_isi (K := K)) rfl T.isi bt_isi (pa_cons (pv 0) (pa_cons (pe_bltn (v := .ty "str") rfl T.str bt_str rfl) pa_nil))) (pe_and (pe_chain op_lt op_le pe_int (pe_callB call_len_str rfl T.len bt_len (pa_cons (pv 0) pa_nil)) (C8.pe_gc rfl T.kMOST_SIGNS)) (pe_one (pe_callB (k_all (K := K) rfl) rfl T.all bt_all (pa_cons (pe_lc (own := [("sign", 1)]) (g := (gName 1)) rfl nd (pi_str (pv 0)) (blkOk_by (N := N_is_name) (sc := defScope s_is_name) (by decide +kernel)) (fun _ _ _ _ _ => (pg_name (i := 1) nd rfl (Or.inl rfl))) (fun _ _ _ _ _ => pts_nil) (fun _ _ _ _ _ => (pe_cmpR op_in_str (pv 1) (C8.pe_gc rfl T.kSIGNS) (by with_unfolding_all rfl)))) pa_nil))))))), ?_⟩
  subst hv
  have hz : z.length ≤ sizeLine := Nat.le_of_lt (small1000 (by have := ok.le; omega))
  have hsz : z.cps.size = z.length := rfl
  have h1 := ok.pos
  have h2 := ok.le
  refine ⟨_, rfl, _, _, _, _, true, rfl, .ty _, tyX_str, kit_ss, true, rfl, ?_⟩
  refine ⟨_, rfl, z, rfl, hz, _, _, rfl, rfl, true, bT (by omega), _, _, rfl, rfl, true, bT (by omega), ?_⟩
  refine ⟨_, rfl, z, rfl, fun D hD => ?_⟩
  refine lcE (J := Its z) (n := z.cps.size) (G := fun _ => True) (Y := fun i H v H' => H' = H ∧ ∃ c, z.cps[i]? = some c ∧ v = .str ⟨#[c]⟩) ⟨fun i _ hi _ => hi, fun _ _ => Nat.le_refl _, fun _ _ _ _ _ _ y => y⟩ (fun i => z.cps.toList[i]?) (fun _ v _ => v = .bl true) (by omega) hD (fun _ _ => trivial) (fun _ _ _ _ _ h => h) (fun i x H2 H' QF QT hi k hys yy q1 q2 => ?_) fun H2 ys k hys pr => ?_
  · obtain ⟨rfl, c, hc, rfl⟩ := yy
    rw [← Array.getElem?_toList] at hc
    obtain ⟨l1, l2⟩ := ok.low c (List.mem_of_getElem? hc)
    exact ⟨rfl, _, rfl, _, _, rfl, rfl, q2 c hc _ _ Ex.refl (congrArg V.bl (sign_in l1 l2))⟩
  · refine ⟨D, _, rfl, SqL.of (by rw [← paired_all_true (Hh := H2) pr]; exact hys), ?_⟩
    rw [all_rep]
    exact hQ H2 k

abbrev N_check_reach : List Str := ["thing"]
theorem sc_check_reach : FnScope N_check_reach ["thing"] (defScope s_check_reach) := C8.fnScope_by (by decide +kernel)
def spCheckR : Sp := fun vs H Q _ => ∃ r : Nat, vs = [nI r] ∧ r ≤ 48 ∧ Q .non H
theorem ok_check_reach (T : Txt mg) (F : FnP K "check_reach" s_check_reach f fd) (g : mg "check_reach" = some (.ref f)) (c_is_within : Cal P w K mg base 2 "is_within" spWithin) : Cal P w K mg base 3 "check_reach" spCheckR := by
  have nd := sc_check_reach.nd
  refine mkCal F g (F.bindsN fun _ _ _ _ _ _ us hl => match us, hl with | [_], _ => rfl) sc_check_reach (fun vs H Q E ⟨_, h, _⟩ => by rw [h]; rfl) fun cdv A outer s H vs Q E hcd hr ⟨r, hv, h, hQ⟩ => ⟨_, (pss_one (ps_if (pt_not (pt_val (C8.pe_c c_is_within hr (by decide) rfl (pa_cons (pv 0) (pa_cons pe_int (pa_cons (C8.pe_gc rfl T.kMOST_REACH) pa_nil)))))) (pss_one ps_never) pss_nil)), ?_⟩
  subst hv
  exact ⟨_, rfl, (r : Int), 0, 48, rfl, by omega, by omega, true, rfl, hQ⟩
abbrev N_name_fits : List Str := ["world", "thing"]
theorem sc_name_fits : FnScope N_name_fits ["world", "thing"] (defScope s_name_fits) := C8.fnScope_by (by decide +kernel)
def spNameF : Sp := fun vs H Q _ => ∃ v z, vs = [v, .str z] ∧ NameOk z ∧ ∀ H', Ex H H' → Q (.bl true) H'
theorem ok_name_fits (T : Txt mg) (F : FnP K "name_fits" s_name_fits f fd) (g : mg "name_fits" = some (.ref f)) (c_is_name : Cal P w K mg base 1 "is_name" spName) : Cal P w K mg base 2 "name_fits" spNameF := by
  have nd := sc_name_fits.nd
  refine mkCal F g (F.bindsN fun _ _ _ _ _ _ us hl => match us, hl with | [_, _], _ => rfl) sc_name_fits (fun vs H Q E ⟨_, _, h, _⟩ => by rw [h]; rfl) fun cdv A outer s H vs Q E hcd hr ⟨v, z, hv, h, hQ⟩ => ⟨_, (pss_one (ps_ret (C8.pe_c c_is_name hr (by decide) rfl (pa_cons (pv 1) pa_nil)))), ?_⟩
  subst hv
  exact ⟨_, rfl, z, rfl, h, hQ⟩
abbrev N_reach_fits : List Str := ["world", "thing"]
theorem sc_reach_fits : FnScope N_reach_fits ["world", "thing"] (defScope s_reach_fits) := C8.fnScope_by (by decide +kernel)
def spReachF : Sp := fun vs H Q _ => ∃ v, ∃ r : Nat, vs = [v, nI r] ∧ r ≤ 48 ∧ Q (.bl true) H
theorem ok_reach_fits (T : Txt mg) (F : FnP K "reach_fits" s_reach_fits f fd) (g : mg "reach_fits" = some (.ref f)) (c_is_within : Cal P w K mg base 2 "is_within" spWithin) : Cal P w K mg base 3 "reach_fits" spReachF := by
  have nd := sc_reach_fits.nd
  refine mkCal F g (F.bindsN fun _ _ _ _ _ _ us hl => match us, hl with | [_, _], _ => rfl) sc_reach_fits (fun vs H Q E ⟨_, _, h, _⟩ => by rw [h]; rfl) fun cdv A outer s H vs Q E hcd hr ⟨v, r, hv, h, hQ⟩ => ⟨_, (pss_one (ps_ret (C8.pe_c c_is_within hr (by decide) rfl (pa_cons (pv 1) (pa_cons pe_int (pa_cons (C8.pe_gc rfl T.kMOST_REACH) pa_nil)))))), ?_⟩
  subst hv
  exact ⟨_, rfl, (r : Int), 0, 48, rfl, by omega, by omega, hQ⟩
end
end J

set_option Elab.async false
set_option linter.all false
set_option maxRecDepth 100000
set_option maxHeartbeats 4000000
/-! JM4: what the loop of closed keeps. -/
namespace J
structure Cl (T : List Tree) (r : Nat) (Ps Wt Fd : List Part) : Prop where
  okW : ∀ P ∈ Wt, POk T P
  fam : Fam T r Fd
  nd : Fd.Nodup
  under : Under Ps (Wt ++ Fd)
  fine : ∀ G, Fam T r G → Under Ps G → Under (Wt ++ Fd) G
section
variable {T : List Tree} {r : Nat} {Ps Wt Fd : List Part} {P : Part}
theorem Cl.start (h : ∀ P ∈ Ps, POk T P) : Cl T r Ps Ps [] :=
  ⟨h, ⟨fun _ h => (nomatch h), fun _ h => (nomatch h)⟩, List.nodup_nil, fun P hP => ⟨P, by simpa using hP, ins_refl P⟩, fun G _ u => by simpa using u⟩
theorem Cl.okP (h : Cl T r Ps (Wt ++ [P]) Fd) : POk T P := h.okW P (by simp)
theorem Cl.add (hT : TsOk T) (h : Cl T r Ps (Wt ++ [P]) Fd) (a : ∀ Q ∈ Fd, ¬ far T P Q ≤ r) : Cl T r Ps Wt (Fd ++ [P]) := by
  have oP := h.okP
  have nin : P ∉ Fd := fun z => a P z (by rw [far_ins hT oP oP (ins_refl P)]; exact Nat.zero_le _)
  have sw : ∀ Q, Q ∈ Wt ++ (Fd ++ [P]) ↔ Q ∈ Wt ++ [P] ++ Fd := fun Q => by
    simp only [List.mem_append, List.mem_singleton]
    constructor
    · rintro (q | q | q)
      · exact .inl (.inl q)
      · exact .inr q
      · exact .inl (.inr q)
    · rintro ((q | q) | q)
      · exact .inl q
      · exact .inr (.inr q)
      · exact .inr (.inl q)
  refine ⟨fun Q hQ => h.okW Q (List.mem_append_left _ hQ), ⟨fun Q hQ => ?_, fun Q hQ R hR ne => ?_⟩, ?_, fun Q hQ => ?_, fun G hG u Q hQ => h.fine G hG u Q ((sw Q).mp hQ)⟩
  · rcases List.mem_append.mp hQ with q | q
    · exact h.fam.1 Q q
    · rw [List.mem_singleton.mp q]
      exact oP
  · rcases List.mem_append.mp hQ with q | q
    · rcases List.mem_append.mp hR with q' | q'
      · exact h.fam.2 Q q R q' ne
      · rw [List.mem_singleton.mp q', far_comm hT (h.fam.1 Q q) oP]
        exact Nat.lt_of_not_le (a Q q)
    · rcases List.mem_append.mp hR with q' | q'
      · rw [List.mem_singleton.mp q]
        exact Nat.lt_of_not_le (a R q')
      · exact absurd ((List.mem_singleton.mp q).trans (List.mem_singleton.mp q').symm) ne
  · rw [List.nodup_append]
    exact ⟨h.nd, by simp, fun Q hQ R hR e => nin (by rw [← List.mem_singleton.mp hR, ← e]; exact hQ)⟩
  · obtain ⟨R, hR, i⟩ := h.under Q hQ
    exact ⟨R, (sw R).mpr hR, i⟩
/-- P grown by those near it -/
theorem fold_ok (hT : TsOk T) : ∀ (near : List Part) (P : Part), POk T P → (∀ Q ∈ near, POk T Q) → POk T (near.foldl (hull T) P) ∧ Ins P (near.foldl (hull T) P) ∧ (∀ Q ∈ near, Ins Q (near.foldl (hull T) P)) ∧ ∀ R, POk T R → Ins P R → (∀ Q ∈ near, Ins Q R) → Ins (near.foldl (hull T) P) R
  | [], P, h, _ => ⟨h, ins_refl P, fun _ h => (nomatch h), fun R _ i _ => i⟩
  | Q :: near, P, h, hn => by
    obtain ⟨h1, h2, h3, h4⟩ := hull_ok hT h (hn Q List.mem_cons_self)
    obtain ⟨k1, k2, k3, k4⟩ := fold_ok hT near (hull T P Q) h1 fun R hR => hn R (List.mem_cons_of_mem _ hR)
    refine ⟨k1, ins_trans h2 k2, fun R hR => ?_, fun R hR i j => k4 R hR (h4 R hR i (j Q List.mem_cons_self)) fun S hS => j S (List.mem_cons_of_mem _ hS)⟩
    rcases List.mem_cons.mp hR with e | hR
    · rw [e]
      exact ins_trans h3 k2
    · exact k3 R hR
theorem Cl.grow (hT : TsOk T) (h : Cl T r Ps (Wt ++ [P]) Fd) {near : List Part} (hn : near = Fd.filter fun Q => decide (far T P Q ≤ r)) :
    Cl T r Ps (Wt ++ [near.foldl (hull T) P]) (Fd.filter fun Q => !near.contains Q) := by
  have oP := h.okP
  have mn : ∀ Q, Q ∈ near ↔ Q ∈ Fd ∧ far T P Q ≤ r := fun Q => by rw [hn, List.mem_filter, decide_eq_true_eq]
  obtain ⟨k1, k2, k3, k4⟩ := fold_ok hT near P oP fun Q hQ => h.fam.1 Q ((mn Q).mp hQ).1
  have mf : ∀ Q, Q ∈ Fd.filter (fun Q => !near.contains Q) ↔ Q ∈ Fd ∧ Q ∉ near := fun Q => by
    rw [List.mem_filter, Bool.not_eq_true', List.contains_eq_mem]
    simp
  refine ⟨fun Q hQ => ?_, ⟨fun Q hQ => h.fam.1 Q ((mf Q).mp hQ).1, fun Q hQ R hR ne => h.fam.2 Q ((mf Q).mp hQ).1 R ((mf R).mp hR).1 ne⟩, h.nd.filter _, fun Q hQ => ?_, fun G hG u Q hQ => ?_⟩
  · rcases List.mem_append.mp hQ with q | q
    · exact h.okW Q (List.mem_append_left _ q)
    · rw [List.mem_singleton.mp q]
      exact k1
  · obtain ⟨R, hR, i⟩ := h.under Q hQ
    rcases List.mem_append.mp hR with q | q
    · rcases List.mem_append.mp q with q | q
      · exact ⟨R, by simp [q], i⟩
      · rw [List.mem_singleton.mp q] at i
        exact ⟨_, by simp, ins_trans i k2⟩
    · by_cases c : R ∈ near
      · exact ⟨_, by simp, ins_trans i (k3 R c)⟩
      · exact ⟨R, List.mem_append_right _ ((mf R).mpr ⟨q, c⟩), i⟩
  · have un := h.fine G hG u
    rcases List.mem_append.mp hQ with q | q
    · rcases List.mem_append.mp q with q | q
      · exact un Q (by simp [q])
      · rw [List.mem_singleton.mp q]
        obtain ⟨R, hR, i⟩ := un P (by simp)
        refine ⟨R, hR, k4 R (hG.1 R hR) i fun S hS => ?_⟩
        obtain ⟨hS1, hS2⟩ := (mn S).mp hS
        obtain ⟨R', hR', j⟩ := un S (List.mem_append_right _ hS1)
        have e : R = R' := Classical.byContradiction fun ne => by
          have l := hG.2 R hR R' hR' ne
          have m := far_mono oP (hG.1 R hR) (h.fam.1 S hS1) (hG.1 R' hR') i j
          omega
        rw [e]
        exact j
    · exact un Q (List.mem_append_right _ ((mf Q).mp q).1)
theorem Cl.stand (hT : TsOk T) (h : Cl T r Ps [] Fd) : IsStand T r Ps (srt Fd) := by
  refine ⟨(srt_srt Fd).symm, srt_nodup.mpr h.nd, ⟨fun P hP => h.fam.1 P (srt_mem.mp hP), fun P hP Q hQ ne => h.fam.2 P (srt_mem.mp hP) Q (srt_mem.mp hQ) ne⟩, fun P hP => ?_, fun G hG u P hP => h.fine G hG u P (by simpa using srt_mem.mp hP)⟩
  obtain ⟨Q, hQ, i⟩ := h.under P hP
  exact ⟨Q, srt_mem.mpr (by simpa using hQ), i⟩
end
end J

set_option Elab.async false
set_option linter.all false
set_option maxRecDepth 100000
set_option maxHeartbeats 8000000
/-! JE: closed. -/
namespace J
open PySem PySem.Spec PyProof.Rows L2
section
variable {K : PySem.W.Frag} {H : Hp} {a : Addr} {zs ys : List V}
theorem kp_put (hl : H a = some (.lst zs)) : Kp (fun b => b = a) H (upd H a (.lst ys)) := Kp.refl.put rfl fun u hu => by
  rw [hl] at hu
  cases hu
  exact fun z => z
theorem dpAll_put {vs : List V} {ds : List PyData} (hl : H a = some (.lst zs)) (f : flatDs ds = true) (h : DpAll K H vs ds) : DpAll K (upd H a (.lst ys)) vs ds := dpAll_kp (kp_put hl) _ _ f h
theorem dp_put {v : V} {d : PyData} (hl : H a = some (.lst zs)) (f : flatD d = true) (h : Dp K H v d) : Dp K (upd H a (.lst ys)) v d := dp_kp (kp_put hl) _ _ f h
theorem dpAll_pairedP {β : Type} {enc : β → PyData} : ∀ {Ps : List β} {ys : List V}, Paired (fun (P : β) (v : V) => Dp K H v (enc P)) Ps ys → DpAll K H ys (Ps.map enc)
  | _, _, .nil => .nil
  | _, _, .cons h t => .cons h (dpAll_pairedP t)
theorem dpAll_snoc : ∀ {vs : List V} {ds : List PyData} {d : PyData}, DpAll K H vs (ds ++ [d]) → ∃ vs' v, vs = vs' ++ [v] ∧ DpAll K H vs' ds ∧ Dp K H v d
  | _, [], d, h => by
    cases h with
    | cons h1 h2 =>
      cases h2
      exact ⟨[], _, rfl, .nil, h1⟩
  | _, e :: ds, d, h => by
    cases h with
    | cons h1 h2 =>
      obtain ⟨vs', v, e1, h3, h4⟩ := dpAll_snoc h2
      exact ⟨_ :: vs', v, by rw [e1]; rfl, .cons h1 h3, h4⟩
theorem dpAll_P {Ps : List Part} {i : Nat} {x : V} (h : DpAll K H zs (Ps.map encP)) (e : zs[i]? = some x) : ∃ P, Ps[i]? = some P ∧ Dp K H x (encP P) := by
  obtain ⟨d, hd, hx⟩ := dpAll_get' h e
  rw [List.getElem?_map] at hd
  obtain ⟨b, hb, eb⟩ := Option.map_eq_some_iff.mp hd
  exact ⟨b, hb, by rw [eb]; exact hx⟩
theorem POk.ne {T : List Tree} {P : Part} (h : POk T P) (hT : 1 ≤ T.length) : P ≠ [] := fun e => by
  have := h.length
  rw [e] at this
  simp at this
  omega
end
/-- the loop's invariant -/
def WCl (K : PySem.W.Frag) (H : Hp) (T : List Tree) (r : Nat) (Ps : List Part) (x0 x1 x2 : V) (a3 : Addr) : Nat → L2.St → Hp → Prop := fun m σ H' => Ex H H' ∧ ∃ (a4 : Addr) (s5 s6 s7 : Option V) (ws fs : List V) (Wt Fd : List Part),
  σ = [some x0, some x1, some x2, some (.ref a3), some (.ref a4), s5, s6, s7] ∧ H a4 = none ∧ a3 ≠ a4 ∧ H' a3 = some (.lst ws) ∧ H' a4 = some (.lst fs) ∧ DpAll K H' ws (Wt.map encP) ∧ DpAll K H' fs (Fd.map encP) ∧ Cl T r Ps Wt Fd ∧ Wt.length + Fd.length ≤ 30 ∧ m = 2 * Wt.length + Fd.length
section
variable {P : Program} {w : World} {K : PySem.W.Frag} {mg : Str → Option Value} {base : Heap} {f : Addr} {fd : FuncData} {CW : Addr}
abbrev N_closed : List Str := ["world", "parts", "reach", "waiting", "found", "part", "near", "other"]
theorem sc_closed : FnScope N_closed ["world", "parts", "reach"] (defScope s_closed) := C8.fnScope_by (by decide +kernel)
def spClosed (K : PySem.W.Frag) (CW : Addr) : Sp := fun vs H Q _ => ∃ w0 v r ts Ps, vs = [.ref w0, v, nI r] ∧ WorldAt K CW H w0 ts ∧ Dp K H v (.tuple (Ps.map encP)) ∧ (∀ P ∈ Ps, POk ts P) ∧ Ps.length ≤ 30 ∧ ∀ H' y F, Ex H H' → Dp K H' y (.tuple (F.map encP)) → IsStand ts r Ps F → Q y H'
theorem ok_closed (T : Txt mg) (F : FnP K "closed" s_closed f fd) (g : mg "closed" = some (.ref f)) (c_part_far : Cal P w K mg base 2 "part_far" (spFar K CW)) (c_part_hull : Cal P w K mg base 4 "part_hull" (spHull K CW)) : Cal P w K mg base 5 "closed" (spClosed K CW) := by
  have nd := sc_closed.nd
  refine mkCal F g (F.bindsN fun _ _ _ _ _ _ us hl => match us, hl with | [_, _, _], _ => rfl) sc_closed (fun vs H Q E ⟨_, _, _, _, _, h, _⟩ => by rw [h]; rfl) fun cdv A outer s H vs Q E hcd hr ⟨w0, v, r, ts, Ps, hv, hw, hp, ok, hl30, hQ⟩ => ⟨_, (pss_cons (ps_par (i := 3) (j := 4) rfl nd rfl rfl (by decide) rfl rfl (pa_cons (pe_callTy (k_list (K := K)) rfl T.list bt_list (pa_cons (pv 1) pa_nil)) (pa_cons (pe_lst pa_nil) pa_nil)) rfl)
    (pss_cons (ps_while PassesOwn.never (pt_truth (pv 3) (fun _ => rfl)) (pss_cons (ps_set (i := 5) nd rfl (Or.inr rfl) (pe_bm0 PySem.F.plainAttrs_list PySem.F.slot_list_pop PySem.F.type_list_pop mt_pop (pv 3)))
    (pss_cons (ps_set (i := 6) nd rfl (Or.inr rfl) (pe_lc (own := [("other", 7)]) (g := (gName 7)) rfl nd (kpi_list (K := K) (pv 4)) (blkOk_by (N := N_closed) (sc := defScope s_closed) (by decide +kernel)) (fun _ _ _ _ _ => (pg_name (i := 7) nd rfl (Or.inl rfl))) (fun _ _ _ _ _ => pts_one (pt_cmpR op_le (C8.pe_c c_part_far hr (by decide) rfl (pa_cons (pv 0) (pa_cons (pv 5) (pa_cons (pv 7) pa_nil)))) (pv 2) (nomark _))) (fun _ _ _ _ _ => (pv 7))))
    (pss_cons (ps_if (pt_cmpR (k_eqE (K := K) (hu1_of hr)) (pv 6) (pe_lst pa_nil) (nomark _)) (pss_cons (ps_expr (pe_bm PySem.F.plainAttrs_list PySem.F.slot_list_append PySem.F.type_list_append mt_append (pv 4) (pa_cons (pv 5) pa_nil)))
    (pss_one ps_continue)) pss_nil)
    (pss_cons (ps_setLc (i := 4) (own := [("other", 7)]) (g := (gName 7)) rfl nd rfl rfl (sw_true rfl rfl rfl (by decide +kernel)) (kpi_list (K := K) (pv 4)) (blkOk_by (N := N_closed) (sc := defScope s_closed) (by decide +kernel)) (fun _ _ _ _ _ => (pg_name (i := 7) nd rfl (Or.inl rfl))) (fun _ _ _ _ _ => pts_one (pt_cmpR (k_notInD (K := K) (hu65_of hr)) (pv 7) (pv 6) (by with_unfolding_all rfl))) (fun _ _ _ _ _ => (pv 7)))
    (pss_cons (ps_for PassesOwn.never rfl (kpi_list (K := K) (pv 6)) (pg_name (i := 7) nd rfl (Or.inl rfl)) (pss_one (ps_set (i := 5) nd rfl (Or.inr rfl) (C8.pe_c c_part_hull hr (by decide) rfl (pa_cons (pv 0) (pa_cons (pv 5) (pa_cons (pv 7) pa_nil)))))))
    (pss_one (ps_expr (pe_bm PySem.F.plainAttrs_list PySem.F.slot_list_append PySem.F.type_list_append mt_append (pv 3) (pa_cons (pv 5) pa_nil))))))))))
    (pss_one (ps_ret (pe_callTy (k_tuple (K := K)) rfl T.tuple bt_tuple (pa_cons (pe_callB (k_sortP (K := K) (hu65_of hr)) rfl T.sorted bt_sorted (pa_cons (pv 4) pa_nil)) pa_nil)))))), ?_⟩
  subst hv
  obtain ⟨a1, xs, rfl, ha1, da1⟩ := dp_T hp
  have hwT : TsOk ts ∧ 1 ≤ ts.length := by
    obtain ⟨_, _, _, _, _, _, h1, h2, _⟩ := hw
    exact ⟨h1, h2⟩
  obtain ⟨hT, hT1⟩ := hwT
  refine ⟨_, rfl, a1, xs, rfl, .inr ha1, fun a3 n3 => ⟨by show 0 ≤ sizeLine; exact Nat.zero_le _, fun a4 n4 => ⟨_, _, rfl, ?_⟩⟩⟩
  have k3 : Ex H (upd H a3 (.lst xs)) := Ex.one n3
  have k4 := k3.new (o := .lst []) n4
  have e3 : upd (upd H a3 (.lst xs)) a4 (.lst []) a3 = some (.lst xs) := Ex.one n4 _ _ upd_same
  refine ⟨WCl K H ts r Ps (.ref w0) (.ref a1) (nI r) a3, ⟨_, k4, a4, none, none, none, xs, [], Ps, [], rfl, k3.nn n4, ne_of_none upd_same n4, e3, upd_same, dpAll_ex k4 _ _ da1, .nil, Cl.start ok, by simpa using hl30, rfl⟩, ?_⟩
  rintro m σ H1 ⟨k1, a4, s5, s6, s7, ws, fs, Wt, Fd, rfl, n4', ne34, h3, h4, d3, d4, cl, hlen, rfl⟩
  clear n4 k4 e3
  by_cases hW : Wt = []
  · -- the end
    subst hW
    cases d3
    refine ⟨_, rfl, false, .inl ⟨[], SqL.of h3, rfl⟩, ?_⟩
    refine ⟨_, rfl, a4, fs, Fd, rfl, SqL.of h4, d4, fun P hP => (cl.fam.1 P hP).ne hT1, fun p zs np dz => ?_⟩
    refine ⟨p, _, rfl, .inl ⟨SqL.of upd_same, fun q nq => ?_⟩⟩
    exact hQ _ (.ref q) (srt Fd) ((k1.new np).new nq) (.tup (SqT.of upd_same) (dpAll_ex ((Ex.one np).new nq) _ _ (dpAll_ex (Ex.refl) _ _ dz))) (cl.stand hT)
  · obtain ⟨W', Pt, rfl⟩ : ∃ W' Pt, Wt = W' ++ [Pt] := ⟨Wt.dropLast, Wt.getLast hW, (List.dropLast_concat_getLast hW).symm⟩
    rw [List.map_append, List.map_singleton] at d3
    obtain ⟨ws', v, rfl, d3, dv⟩ := dpAll_snoc d3
    have oP := cl.okP
    rw [List.length_append, List.length_singleton] at hlen
    refine ⟨_, rfl, true, .inl ⟨_, SqL.of h3, by simp⟩, ?_⟩
    rw [List.length_append, List.length_singleton]
    refine ⟨fun σ' H' => ∃ m', m' < 2 * (W'.length + 1) + Fd.length ∧ WCl K H ts r Ps (.ref w0) (.ref a1) (nI r) a3 m' σ' H', fun σ' H' h => h, ?_⟩
    refine ⟨_, rfl, .inl ⟨rfl, _, SqL.of h3⟩, a3, _, v, rfl, rfl, h3, by simp, ?_⟩
    rw [List.dropLast_concat]
    have k2 : Ex H (upd H1 a3 (.lst ws')) := k1.loc n3
    have h3' : upd H1 a3 (.lst ws') a3 = some (.lst ws') := upd_same
    have h4' : upd H1 a3 (.lst ws') a4 = some (.lst fs) := by rw [upd_ne ne34.symm]; exact h4
    have d3' := dpAll_put (ys := ws') h3 (flat_Ps _) d3
    have d4' := dpAll_put (ys := ws') h3 (flat_Ps _) d4
    have dv' := dp_put (ys := ws') h3 (flat_P _) dv
    obtain ⟨H2, eH2⟩ : ∃ H2, H2 = upd H1 a3 (.lst ws') := ⟨_, rfl⟩
    rw [← eH2] at k2 h3' h4' d3' d4' dv' ⊢
    clear eH2 d3 d4 dv h3 h4 k1
    have hfl : fs.length = Fd.length := by rw [dpAll_length d4', List.length_map]
    -- near
    refine ⟨_, rfl, a4, rfl, ⟨_, SqL.of h4'⟩, fun D hD => ?_⟩
    refine lcE (walk_list (xs := fs)) (fun i => (Fd[i]?).bind fun Q => if decide (far ts Pt Q ≤ r) = true then some Q else none) (fun Q v Hx => Dp K Hx v (encP Q)) (by omega) hD (fun Hx k => SqL.of (k _ _ h4')) (fun Q v Hx Hy kk h => dp_kp (S := fun b => b = D) (fun b o hb fx => kk b o hb fx) _ _ (flat_P _) h) (fun i z Hx H' QF QT hi k hys yy q1 q2 => ?_) fun H3 ys k hys pr => ?_
    · obtain ⟨rfl, e⟩ := yy
      obtain ⟨Qp, hQp, dQ⟩ := dpAll_P d4' e
      rw [hQp] at q1 q2
      have oQ := cl.fam.1 Qp (List.mem_of_getElem? hQp)
      refine ⟨rfl, _, rfl, _, rfl, _, rfl, w0, v, z, ts, Pt, Qp, rfl, hw.ex (k2.trans k), dp_ex k _ _ dv', dp_ex k _ _ dQ, oP, oQ, fun H4 k4 => ?_⟩
      by_cases c : far ts Pt Qp ≤ r
      · refine ⟨_, rfl, _, _, rfl, rfl, true, bT (Int.ofNat_le.mpr c), _, rfl, q2 Qp ?_ _ _ k4 (dp_ex (k.trans k4) _ _ dQ)⟩
        simp only [Option.bind]
        rw [if_pos (decide_eq_true c)]
      · refine ⟨_, rfl, _, _, rfl, rfl, false, bF (fun z => c (Int.ofNat_le.mp z)), q1 ?_ _ k4⟩
        simp only [Option.bind]
        rw [if_neg (by rw [decide_eq_true_eq]; exact c)]
    rw [hfl, filterMap_range] at pr
    have dn := dpAll_pairedP pr
    obtain ⟨near, hnear⟩ : ∃ near, near = Fd.filter fun Q => decide (far ts Pt Q ≤ r) := ⟨_, rfl⟩
    rw [← hnear] at dn
    clear pr
    have hyl : ys.length = near.length := by rw [dpAll_length dn, List.length_map]
    have mn : ∀ Q, Q ∈ near ↔ Q ∈ Fd ∧ far ts Pt Q ≤ r := fun Q => by rw [hnear, List.mem_filter, decide_eq_true_eq]
    refine ⟨_, rfl, by show 0 ≤ sizeLine; exact Nat.zero_le _, fun q nq => ?_⟩
    have k5 := k.new (o := .lst []) nq
    have hys5 := Ex.one (o := .lst []) nq _ _ hys
    have dn5 := dpAll_ex (Ex.one (o := .lst []) nq) _ _ dn
    have q5 : upd H3 q (.lst []) q = some (.lst []) := upd_same
    obtain ⟨H5, eH5⟩ : ∃ H5, H5 = upd H3 q (.lst []) := ⟨_, rfl⟩
    rw [← eH5] at k5 hys5 dn5 q5 ⊢
    clear eH5 hys dn nq
    have h35 := k5 _ _ h3'
    have h45 := k5 _ _ h4'
    have d35 := dpAll_ex k5 _ _ d3'
    have d45 := dpAll_ex k5 _ _ d4'
    have dv5 := dp_ex k5 _ _ dv'
    have kH5 := k2.trans k5
    by_cases hn0 : near = []
    · -- a new one stands
      have ey : ys = [] := List.eq_nil_of_length_eq_zero (by rw [hyl, hn0]; rfl)
      subst ey
      refine ⟨false, D, q, [], rfl, rfl, SqL.of hys5, SqL.of q5, true, rfl, ?_⟩
      refine ⟨_, rfl, .inl ⟨rfl, _, SqL.of h45⟩, _, rfl, a4, fs, v, rfl, rfl, h45, small1000 (by omega), ?_⟩
      refine ⟨2 * W'.length + (Fd.length + 1), by omega, kH5.loc n4', a4, some v, some (.ref D), s7, ws', fs ++ [v], W', Fd ++ [Pt], rfl, n4', ne34, by rw [upd_ne ne34]; exact h35, upd_same, dpAll_put h45 (flat_Ps _) d35, ?_, cl.add hT fun Q hQ z => ?_, by rw [List.length_append, List.length_singleton]; omega, by rw [List.length_append, List.length_singleton]⟩
      · rw [List.map_append]
        exact dpAll_append (dpAll_put h45 (flat_Ps _) d45) (.cons (dp_put h45 (flat_P _) dv5) .nil)
      · have := (mn Q).mpr ⟨hQ, z⟩
        rw [hn0] at this
        cases this
    · -- it grows
      have ey : ys.isEmpty = false := by
        cases ys with
        | nil => exact absurd (List.eq_nil_of_length_eq_zero hyl.symm) hn0
        | cons _ _ => rfl
      refine ⟨false, D, q, ys, rfl, rfl, SqL.of hys5, SqL.of q5, false, congrArg V.bl ey, ?_⟩
      refine ⟨_, rfl, a4, rfl, ⟨_, SqL.of h45⟩, fun D2 hD2 => ?_⟩
      refine lcE (walk_list (xs := fs)) (fun i => (Fd[i]?).bind fun Q => if (!near.contains Q) = true then some Q else none) (fun Q v Hx => Dp K Hx v (encP Q)) (by omega) hD2 (fun Hx k => SqL.of (k _ _ h45)) (fun Q v Hx Hy kk h => dp_kp (S := fun b => b = D2) (fun b o hb fx => kk b o hb fx) _ _ (flat_P _) h) (fun i z Hx H' QF QT hi k hys yy q1 q2 => ?_) fun H6 zs k6 hzs pr => ?_
      · obtain ⟨rfl, e⟩ := yy
        obtain ⟨Qp, hQp, dQ⟩ := dpAll_P d45 e
        rw [hQp] at q1 q2
        by_cases c : (!near.contains Qp) = true
        · refine ⟨rfl, _, rfl, _, rfl, encP Qp, near.map encP, dp_ex k _ _ dQ, .lst (SqL.of (k _ _ hys5)) (dpAll_ex k _ _ dn5), shaped_P _, shaped_FL _, true, by rw [any_P, c], _, rfl, q2 Qp ?_ _ _ Ex.refl (dp_ex k _ _ dQ)⟩
          simp only [Option.bind]
          rw [if_pos c]
        · refine ⟨rfl, _, rfl, _, rfl, encP Qp, near.map encP, dp_ex k _ _ dQ, .lst (SqL.of (k _ _ hys5)) (dpAll_ex k _ _ dn5), shaped_P _, shaped_FL _, false, by rw [any_P, Bool.eq_false_iff.mpr c], q1 ?_ _ Ex.refl⟩
          simp only [Option.bind]
          rw [if_neg c]
      rw [hfl, filterMap_range] at pr
      have dF := dpAll_pairedP pr
      clear pr
      have hys6 := k6 _ _ hys5
      have dn6 := dpAll_ex k6 _ _ dn5
      refine ⟨_, rfl, D, rfl, ⟨_, SqL.of hys6⟩, ?_⟩
      refine for_it (walk_list (xs := ys)) (fun i σ Hx => Ex H6 Hx ∧ ∃ vk s7, σ = [some (.ref w0), some (.ref a1), some (nI r), some (.ref a3), some (.ref D2), some vk, some (.ref D), s7] ∧ Dp K Hx vk (encP ((near.take i).foldl (hull ts) Pt))) ⟨Ex.refl, v, s7, rfl, dp_ex k6 _ _ dv5⟩ (fun i σ Hx _ hx => SqL.of (hx.1 _ _ hys6)) (fun i z σ Hx H' hi hx yy => ?_) fun σ Hx hx => ?_
      · obtain ⟨kx, vk, s7, rfl, dk⟩ := hx
        obtain ⟨rfl, e⟩ := yy
        obtain ⟨Qp, hQp, dQ⟩ := dpAll_P dn6 e
        have oQ := cl.fam.1 Qp ((mn Qp).mp (List.mem_of_getElem? hQp)).1
        have ok1 := (fold_ok hT (near.take i) Pt oP fun R hR => cl.fam.1 R ((mn R).mp (List.mem_of_mem_take hR)).1).1
        refine ⟨_, rfl, _, rfl, _, rfl, w0, vk, z, ts, _, Qp, rfl, hw.ex ((kH5.trans k6).trans kx), dk, dp_ex kx _ _ dQ, ok1, oQ, fun H8 y k8 hy => ?_⟩
        refine ⟨kx.trans k8, y, some z, rfl, ?_⟩
        rw [List.take_add_one, hQp, List.foldl_append]
        exact hy
      · obtain ⟨kx, vk, s7, rfl, dk⟩ := hx
        rw [List.take_of_length_le (by omega)] at dk
        have k7 := k6.trans kx
        have h37 := k7 _ _ h35
        have h47 := k7 _ _ h45
        have hwl : ws'.length = W'.length := by rw [dpAll_length d3', List.length_map]
        have ne3 : a3 ≠ D2 := ne_of_none h35 hD2
        have hlt : (Fd.filter fun Q => !near.contains Q).length < Fd.length := by
          refine List.length_filter_lt_length_iff_exists.mpr ?_
          obtain ⟨Q, hQ⟩ := List.exists_mem_of_ne_nil near hn0
          refine ⟨Q, ((mn Q).mp hQ).1, ?_⟩
          rw [List.contains_iff_mem.mpr hQ]
          exact Bool.false_ne_true
        refine ⟨_, rfl, .inl ⟨rfl, _, SqL.of h37⟩, _, rfl, a3, ws', vk, rfl, rfl, h37, small1000 (by omega), ?_⟩
        refine ⟨2 * (W'.length + 1) + (Fd.filter fun Q => !near.contains Q).length, by omega, (kH5.trans k7).loc n3, D2, some vk, some (.ref D), s7, ws' ++ [vk], zs, W' ++ [near.foldl (hull ts) Pt], _, rfl, kH5.nn hD2, ne3, upd_same, by rw [upd_ne ne3.symm]; exact kx _ _ hzs, ?_, dpAll_put h37 (flat_Ps _) (dpAll_ex kx _ _ dF), cl.grow hT hnear, by rw [List.length_append, List.length_singleton]; omega, by rw [List.length_append, List.length_singleton]⟩
        rw [List.map_append]
        exact dpAll_append (dpAll_put h37 (flat_Ps _) (dpAll_ex k7 _ _ d35)) (.cons (dp_put h37 (flat_P _) dk) .nil)
end
end J

set_option Elab.async false
set_option linter.all false
set_option maxRecDepth 100000
set_option maxHeartbeats 8000000
/-! JG: deeds: parted, put_in, behind. -/
namespace J
open PySem PySem.Spec PyProof.Rows L2
/-! ### tuples stay -/
def TupL : HO → Prop
  | .tup _ => True
  | .frz _ (.tup _) => True
  | _ => False
def Kt (H H' : Hp) : Prop := ∀ a u, H a = some u → TupL u → H' a = some u
section
variable {K : PySem.W.Frag} {H H' : Hp} {a : Addr} {xs : List V}
theorem sqT_tt (k : Kt H H') (h : SqT K H a xs) : SqT K H' a xs := by
  rcases h with (h | ⟨o, h⟩) | h
  · exact .inl (.inl (k a _ h trivial))
  · exact .inl (.inr ⟨o, k a _ h trivial⟩)
  · exact .inr h
mutual
theorem dp_tt (k : Kt H H') : ∀ (d : PyData) (v : V), flatD d = true → Dp K H v d → Dp K H' v d
  | .none, _, _, h => by
    cases h
    exact .non
  | .bool _, _, _, h => by
    cases h
    exact .bl _
  | .int _, _, _, h => by
    cases h
    exact .int _
  | .str _, _, _, h => by
    cases h
    exact .str _
  | .tuple ds, _, f, h => by
    cases h with
    | tup hs ha => exact .tup (sqT_tt k hs) (dpAll_tt k ds _ f ha)
  | .list _, _, f, _ => by cases f
  | .dict _, _, f, _ => by cases f
theorem dpAll_tt (k : Kt H H') : ∀ (ds : List PyData) (vs : List V), flatDs ds = true → DpAll K H vs ds → DpAll K H' vs ds
  | [], _, _, h => by
    cases h
    exact .nil
  | d :: ds, _, f, h => by
    have f' : (flatD d && flatDs ds) = true := f
    rw [Bool.and_eq_true] at f'
    cases h with
    | cons h1 h2 => exact .cons (dp_tt k d _ f'.1 h1) (dpAll_tt k ds _ f'.2 h2)
end
theorem Kt.put {o u : HO} (h : H a = some u) (n : ¬ TupL u) : Kt H (upd H a o) := fun b w hb t => by
  have ne : b ≠ a := fun z => by
    subst z
    rw [h] at hb
    cases hb
    exact n t
  rw [upd_ne ne]
  exact hb
theorem Kp.kt {S : Addr → Prop} (k : Kp S H H') : Kt H H' := fun a u h t => k a u h fun _ => by
  cases u with
  | tup _ => trivial
  | frz _ _ => trivial
  | _ => exact t.elim
theorem Ex.kt (k : Ex H H') : Kt H H' := fun a u h _ => k a u h
end
/-! ### deeds, books -/
inductive Deed where
  | put (z : Str) (P : Part)
  | strike (z : Str)
  | move (z : Str) (P : Part)
  | reach (r : Nat)
def encDeed : Deed → PyData
  | .put z P => .tuple [.str "put", .str z, encP P]
  | .strike z => .tuple [.str "strike", .str z]
  | .move z P => .tuple [.str "move", .str z, encP P]
  | .reach r => .tuple [.str "reach", .int (r : Int)]
def DeedOk (T : List Tree) : Deed → Prop
  | .put z P => NameOk z ∧ POk T P
  | .strike z => NameOk z
  | .move z P => NameOk z ∧ POk T P
  | .reach r => r ≤ 48
abbrev Book := List (Str × Part)
def nms_ (b : Book) : List Str := b.map (·.1)
def Fit (b : Book) : Deed → Prop
  | .put z _ => z ∉ nms_ b ∧ b.length ≤ 20
  | .strike z => z ∈ nms_ b
  | .move z _ => z ∈ nms_ b
  | .reach _ => True
def bookAfter (b : Book) : Deed → Book
  | .put z P => b ++ [(z, P)]
  | .strike z => b.filter fun x => decide (x.1 ≠ z)
  | .move z P => b.map fun x => (x.1, if x.1 = z then P else x.2)
  | .reach _ => b
def reachAfter (r : Nat) : Deed → Nat
  | .reach r' => r'
  | _ => r
/-- a dict's pairs are the book's -/
def Bk (K : PySem.W.Frag) (H : Hp) (b : Book) (kvs : List (Key × V)) : Prop := Paired (fun (x : Str × Part) (kv : Key × V) => kv.1 = Sum.inr x.1 ∧ Dp K H kv.2 (encP x.2)) b kvs
def BookAt (K : PySem.W.Frag) (H : Hp) (d : Addr) (b : Book) : Prop := ∃ kvs, H d = some (.dK kvs) ∧ Bk K H b kvs
section
variable {K : PySem.W.Frag} {H H' : Hp} {b : Book} {kvs : List (Key × V)} {d : Addr}
theorem Bk.tt (k : Kt H H') (h : Bk K H b kvs) : Bk K H' b kvs := Paired.mapP h fun x kv ⟨h1, h2⟩ => ⟨h1, dp_tt k _ _ (flat_P _) h2⟩
theorem BookAt.ex (k : Ex H H') (h : BookAt K H d b) : BookAt K H' d b := by
  obtain ⟨kvs, h1, h2⟩ := h
  exact ⟨kvs, k _ _ h1, h2.tt k.kt⟩
theorem Bk.get {i : Nat} {kv : Key × V} : ∀ {b : Book} {kvs : List (Key × V)} {i : Nat}, Bk K H b kvs → kvs[i]? = some kv → ∃ x, b[i]? = some x ∧ kv.1 = Sum.inr x.1 ∧ Dp K H kv.2 (encP x.2)
  | _, _, i, .nil, h => by simp at h
  | _, _, 0, .cons r _, h => by
    simp only [List.getElem?_cons_zero, Option.some.injEq] at h
    subst h
    exact ⟨_, rfl, r⟩
  | _, _, i + 1, .cons _ t, h => by
    obtain ⟨x, h1, h2⟩ := Bk.get (i := i) t (by simpa using h)
    exact ⟨x, by simpa using h1, h2⟩
theorem Bk.has : ∀ {b : Book} {kvs : List (Key × V)} {z : Str}, Bk K H b kvs → (valV kvs (Sum.inr z)).isSome = decide (z ∈ nms_ b)
  | _, _, z, .nil => by simp [nms_, valV]
  | x :: b, kv :: kvs, z, .cons r t => by
    have ih := Bk.has (z := z) t
    by_cases e : x.1 = z
    · rw [valV_pos (by rw [r.1, e])]
      exact (decide_eq_true (by unfold nms_; rw [List.map_cons, e]; exact List.mem_cons_self)).symm
    · rw [valV_neg (by rw [r.1]; exact fun q => e (Sum.inr.inj q)), ih]
      refine decide_eq_decide.mpr ?_
      unfold nms_
      rw [List.map_cons, List.mem_cons]
      exact ⟨.inr, fun q => q.resolve_left fun q => e q.symm⟩
theorem Bk.putNew {z : Str} {v : V} (h : Bk K H b kvs) (n : z ∉ nms_ b) : putK kvs (Sum.inr z) v = kvs ++ [(Sum.inr z, v)] := by
  unfold putK
  have e : (kvs.any fun kv => decide (kv.1 = (Sum.inr z : Key))) = false := by
    rw [valV_any, h.has]
    exact decide_eq_false n
  rw [e]
  exact if_neg Bool.false_ne_true
theorem Bk.length (h : Bk K H b kvs) : b.length = kvs.length := Paired.length h
theorem Bk.app {b' : Book} {kvs' : List (Key × V)} (h : Bk K H b kvs) (h' : Bk K H b' kvs') : Bk K H (b ++ b') (kvs ++ kvs') := pairedApp h h'
theorem nms_map {b : Book} {P : Part} {z : Str} : nms_ (b.map fun x => (x.1, if x.1 = z then P else x.2)) = nms_ b := by
  unfold nms_
  rw [List.map_map]
  rfl
theorem nms_filter {b : Book} {p : Str × Part → Bool} {y : Str} (h : y ∈ nms_ (b.filter p)) : y ∈ nms_ b := by
  unfold nms_ at *
  obtain ⟨x, hx, e⟩ := List.mem_map.mp h
  exact List.mem_map.mpr ⟨x, (List.mem_filter.mp hx).1, e⟩
theorem nms_new {b : Book} {i : Nat} {x : Str × Part} (h : (nms_ b).Nodup) (hx : b[i]? = some x) : x.1 ∉ nms_ (b.take i) := fun q => by
  unfold nms_ at *
  obtain ⟨hi, ex⟩ := List.getElem?_eq_some_iff.mp hx
  have e : b = b.take i ++ x :: b.drop (i + 1) := by
    rw [← ex]
    exact (List.take_append_drop i b).symm.trans (by rw [List.drop_eq_getElem_cons hi])
  rw [e, List.map_append, List.map_cons, List.nodup_append] at h
  exact h.2.2 _ q x.1 List.mem_cons_self rfl
theorem nms_snoc {z : Str} {P : Part} (h : (nms_ b).Nodup) (n : z ∉ nms_ b) : (nms_ (b ++ [(z, P)])).Nodup := by
  unfold nms_ at *
  rw [List.map_append, List.nodup_append]
  refine ⟨h, by simp, fun x hx y hy e => n ?_⟩
  have hy' : y = z := by simpa using hy
  rw [← hy', ← e]
  exact hx
theorem merge_from : ∀ {b b0 : Book} {kvs kvs0 : List (Key × V)}, Bk K H b0 kvs0 → Bk K H b kvs → (nms_ (b0 ++ b)).Nodup → mergeK kvs0 kvs = kvs0 ++ kvs
  | _, _, _, _, _, .nil, _ => by simp [mergeK]
  | x :: b, b0, kv :: kvs, kvs0, h0, .cons r t, hn => by
    have hx : x.1 ∉ nms_ b0 := fun z => by
      unfold nms_ at hn z
      rw [List.map_append, List.nodup_append] at hn
      exact hn.2.2 _ z x.1 (by rw [List.map_cons]; exact List.mem_cons_self) rfl
    obtain ⟨k, v⟩ := kv
    have ek : k = Sum.inr x.1 := r.1
    subst ek
    have e : mergeK kvs0 ((Sum.inr x.1, v) :: kvs) = mergeK (putK kvs0 (Sum.inr x.1) v) kvs := rfl
    rw [e, h0.putNew hx, merge_from (b0 := b0 ++ [x]) (h0.app (.cons r .nil)) t (by rw [List.append_assoc]; exact hn), List.append_assoc]
    rfl
theorem mergeK_nodup (h : Bk K H b kvs) (hn : (nms_ b).Nodup) : mergeK [] kvs = kvs := by
  have := merge_from (b0 := []) (kvs0 := []) .nil h (by simpa using hn)
  simpa using this
end
section
variable {P : Program} {w : World} {K : PySem.W.Frag} {mg : Str → Option Value} {base : Heap} {f : Addr} {fd : FuncData} {CW : Addr}
abbrev N_parted : List Str := ["ahead", "later", "gone", "part"]
theorem sc_parted : FnScope N_parted ["ahead", "later"] (defScope s_parted) := C8.fnScope_by (by decide +kernel)
def spParted (K : PySem.W.Frag) : Sp := fun vs H Q _ => ∃ (v u : V) (A L : List Part), vs = [v, u] ∧ Dp K H v (.tuple (A.map encP)) ∧ Dp K H u (.tuple (L.map encP)) ∧ A.length ≤ 100 ∧ L.length ≤ 100 ∧
  ∀ H' p v1 v2, Ex H H' → SqT K H' p [v1, v2] → Dp K H' v1 (.tuple ((A.filter fun P => !L.contains P).map encP)) → Dp K H' v2 (.tuple ((L.filter fun P => !A.contains P).map encP)) → Q (.ref p) H'
theorem ok_parted (T : Txt mg) (F : FnP K "parted" s_parted f fd) (g : mg "parted" = some (.ref f)) : Cal P w K mg base 1 "parted" (spParted K) := by
  have nd := sc_parted.nd
  refine mkCal F g (F.bindsN fun _ _ _ _ _ _ us hl => match us, hl with | [_, _], _ => rfl) sc_parted (fun vs H Q E ⟨_, _, _, _, h, _⟩ => by rw [h]; rfl) fun cdv A outer s H vs Q E hcd hr ⟨v, u, Af, Lf, hv, hA, hL, lA, lL, hQ⟩ => ⟨_, (pss_cons (ps_set (i := 2) nd rfl (Or.inl rfl) (pe_callTy (k_tuple (K := K)) rfl T.tuple bt_tuple (pa_cons (pe_lc (own := [("part", 3)]) (g := (gName 3)) rfl nd (kpi_tup (K := K) (pv 0)) (blkOk_by (N := N_parted) (sc := defScope s_parted) (by decide +kernel)) (fun _ _ _ _ _ => (pg_name (i := 3) nd rfl (Or.inl rfl))) (fun _ _ _ _ _ => pts_one (pt_cmpR (k_notInT (K := K) (hu65_of hr)) (pv 3) (pv 1) (by with_unfolding_all rfl))) (fun _ _ _ _ _ => (pv 3))) pa_nil)))
    (pss_one (ps_ret (pe_tup (pa_cons (pv 2) (pa_cons (pe_callTy (k_tuple (K := K)) rfl T.tuple bt_tuple (pa_cons (pe_lc (own := [("part", 3)]) (g := (gName 3)) rfl nd (kpi_tup (K := K) (pv 1)) (blkOk_by (N := N_parted) (sc := defScope s_parted) (by decide +kernel)) (fun _ _ _ _ _ => (pg_name (i := 3) nd rfl (Or.inl rfl))) (fun _ _ _ _ _ => pts_one (pt_cmpR (k_notInT (K := K) (hu65_of hr)) (pv 3) (pv 0) (by with_unfolding_all rfl))) (fun _ _ _ _ _ => (pv 3))) pa_nil)) pa_nil)))))), ?_⟩
  subst hv
  obtain ⟨a1, xs, rfl, ha1, da1⟩ := dp_T hA
  obtain ⟨a2, ys, rfl, ha2, da2⟩ := dp_T hL
  have lx : xs.length = Af.length := by rw [dpAll_length da1, List.length_map]
  have ly : ys.length = Lf.length := by rw [dpAll_length da2, List.length_map]
  refine ⟨_, rfl, a1, rfl, ⟨_, ha1⟩, fun D hD => ?_⟩
  refine lcE (walk_tup (xs := xs)) (fun i => (Af[i]?).bind fun Q => if (!Lf.contains Q) = true then some Q else none) (fun Q v Hx => Dp K Hx v (encP Q)) (by omega) hD (fun Hx k => sqT_ex k ha1) (fun Q v Hx Hy kk h => dp_kp (S := fun b => b = D) (fun b o hb fx => kk b o hb fx) _ _ (flat_P _) h) (fun i z Hx H' QF QT hi k hys yy q1 q2 => ?_) fun H1 zs k1 hzs pr => ?_
  · obtain ⟨rfl, e⟩ := yy
    obtain ⟨Qp, hQp, dQ⟩ := dpAll_P da1 e
    rw [hQp] at q1 q2
    by_cases c : (!Lf.contains Qp) = true
    · refine ⟨rfl, _, rfl, _, rfl, encP Qp, Lf.map encP, dp_ex k _ _ dQ, dp_ex k _ _ hL, shaped_P _, shaped_F _, true, by show V.bl (!((Lf.map encP).any fun z => PyData.eqv z (encP Qp))) = _; rw [any_P, c], _, rfl, q2 Qp ?_ _ _ Ex.refl (dp_ex k _ _ dQ)⟩
      simp only [Option.bind]
      rw [if_pos c]
    · refine ⟨rfl, _, rfl, _, rfl, encP Qp, Lf.map encP, dp_ex k _ _ dQ, dp_ex k _ _ hL, shaped_P _, shaped_F _, false, by show V.bl (!((Lf.map encP).any fun z => PyData.eqv z (encP Qp))) = _; rw [any_P, Bool.eq_false_iff.mpr c], q1 ?_ _ Ex.refl⟩
      simp only [Option.bind]
      rw [if_neg c]
  rw [lx, filterMap_range] at pr
  have d1 := dpAll_pairedP pr
  refine ⟨D, zs, rfl, .inl ⟨SqL.of hzs, fun t1 nt1 => ?_⟩⟩
  have k2 := k1.new (o := .tup zs) nt1
  have d2 : Dp K (upd H1 t1 (.tup zs)) (.ref t1) (.tuple ((Af.filter fun P => !Lf.contains P).map encP)) := .tup (SqT.of upd_same) (dpAll_ex (Ex.one nt1) _ _ d1)
  refine ⟨_, rfl, _, rfl, a2, rfl, ⟨_, sqT_ex k2 ha2⟩, fun D2 hD2 => ?_⟩
  refine lcE (walk_tup (xs := ys)) (fun i => (Lf[i]?).bind fun Q => if (!Af.contains Q) = true then some Q else none) (fun Q v Hx => Dp K Hx v (encP Q)) (by omega) hD2 (fun Hx k => sqT_ex (k2.trans k) ha2) (fun Q v Hx Hy kk h => dp_kp (S := fun b => b = D2) (fun b o hb fx => kk b o hb fx) _ _ (flat_P _) h) (fun i z Hx H' QF QT hi k hys yy q1 q2 => ?_) fun H3 ws k3 hws pr => ?_
  · obtain ⟨rfl, e⟩ := yy
    obtain ⟨Qp, hQp, dQ⟩ := dpAll_P da2 e
    rw [hQp] at q1 q2
    have k := k2.trans k
    by_cases c : (!Af.contains Qp) = true
    · refine ⟨rfl, _, rfl, _, rfl, encP Qp, Af.map encP, dp_ex k _ _ dQ, dp_ex k _ _ hA, shaped_P _, shaped_F _, true, by show V.bl (!((Af.map encP).any fun z => PyData.eqv z (encP Qp))) = _; rw [any_P, c], _, rfl, q2 Qp ?_ _ _ Ex.refl (dp_ex k _ _ dQ)⟩
      simp only [Option.bind]
      rw [if_pos c]
    · refine ⟨rfl, _, rfl, _, rfl, encP Qp, Af.map encP, dp_ex k _ _ dQ, dp_ex k _ _ hA, shaped_P _, shaped_F _, false, by show V.bl (!((Af.map encP).any fun z => PyData.eqv z (encP Qp))) = _; rw [any_P, Bool.eq_false_iff.mpr c], q1 ?_ _ Ex.refl⟩
      simp only [Option.bind]
      rw [if_neg c]
  rw [ly, filterMap_range] at pr
  have d3 := dpAll_pairedP pr
  refine ⟨D2, ws, rfl, .inl ⟨SqL.of hws, fun t2 nt2 => ?_⟩⟩
  refine ⟨by show 2 ≤ sizeLine; decide, fun p np => ?_⟩
  have k4 := (Ex.one (o := .tup ws) nt2).new (o := .tup [.ref t1, .ref t2]) np
  exact hQ _ p (.ref t1) (.ref t2) ((k2.trans k3).trans k4) (SqT.of upd_same) (dp_ex (k3.trans k4) _ _ d2) (dp_ex (Ex.one np) _ _ (.tup (SqT.of upd_same) (dpAll_ex (Ex.one nt2) _ _ d3)))

abbrev N_put_in : List Str := ["known", "name", "part"]
theorem sc_put_in : FnScope N_put_in ["known", "name", "part"] (defScope s_put_in) := C8.fnScope_by (by decide +kernel)
def spPutIn (K : PySem.W.Frag) : Sp := fun vs H Q _ => ∃ d z v b Pt, vs = [.ref d, .str z, v] ∧ BookAt K H d b ∧ Dp K H v (encP Pt) ∧ z ∉ nms_ b ∧ (nms_ b).Nodup ∧ b.length ≤ 20 ∧ ∀ H' d', Ex H H' → H d' = none → BookAt K H' d' (b ++ [(z, Pt)]) → Q (.ref d') H'
theorem ok_put_in (T : Txt mg) (F : FnP K "put_in" s_put_in f fd) (g : mg "put_in" = some (.ref f)) : Cal P w K mg base 1 "put_in" (spPutIn K) := by
  have nd := sc_put_in.nd
  refine mkCal F g (F.bindsN fun _ _ _ _ _ _ us hl => match us, hl with | [_, _, _], _ => rfl) sc_put_in (fun vs H Q E ⟨_, _, _, _, _, h, _⟩ => by rw [h]; rfl) fun cdv A outer s H vs Q E hcd hr ⟨d, z, v, b, Pt, hv, ⟨kvs, hd, hb⟩, hp, hz, hnd, hl, hQ⟩ => ⟨_, (pss_cons (ps_if (pt_cmp (pc_din (hu_of hr) (pv 1) (pv 0))) (pss_one ps_never) pss_nil)
    (pss_cons (ps_if (pt_cmpR op_ge (pe_callB call_lenD rfl T.len bt_len (pa_cons (pv 0) pa_nil)) (C8.pe_gc rfl T.kMOST_NAMES) (nomark _)) (pss_one ps_never) pss_nil)
    (pss_one (ps_ret (pe_callTy (call_dictP rfl) rfl T.dict bt_dict (pa_cons (pe_op op_cat (LiI.pe_listItems rfl (pv 0) rfl T.list bt_list) (pe_lst (pa_cons (pe_tup (pa_cons (pv 1) (pa_cons (pv 2) pa_nil))) pa_nil))) pa_nil)))))), ?_⟩
  subst hv
  have hkl := hb.length
  have hzv := hb.has (z := z)
  rw [decide_eq_false hz] at hzv
  refine ⟨_, rfl, _, rfl, d, _, rfl, DGet.k (k := Sum.inr z) hd, false, congrArg V.bl hzv, ?_⟩
  refine ⟨_, rfl, d, kvs, rfl, hd, _, _, rfl, rfl, false, bF (by omega), ?_⟩
  refine ⟨_, rfl, d, kvs, rfl, hd, fun H1 p ts k1 np nts hpt hp1 hts => ?_⟩
  have k1 : Ex H H1 := k1
  have hd1 := k1 _ _ hd
  refine ⟨_, rfl, _, rfl, by show 2 ≤ sizeLine; decide, fun q nq => ⟨by show 1 ≤ sizeLine; decide, fun l nl => ?_⟩⟩
  have kq := (Ex.one (o := .tup [.str z, v]) nq).new (o := .lst [.ref q]) nl
  have eq' : upd (upd H1 q (.tup [.str z, v])) l (.lst [.ref q]) q = some (.tup [.str z, v]) := Ex.one nl _ _ upd_same
  have hlts : ts.length = kvs.length := Paired.length hts
  refine ⟨p, l, _, _, rfl, rfl, kq _ _ hp1, upd_same, ?_, fun m nm => ?_⟩
  · rw [List.length_map, hlts]
    have := small1000 (n := kvs.length + 1) (by omega)
    exact Nat.le_of_lt this
  have km := kq.new (o := .lst (ts.map V.ref ++ [.ref q])) nm
  refine ⟨m, ts ++ [q], kvs ++ [(Sum.inr z, v)], rfl, SqL.of (by rw [upd_same, List.map_append]; rfl), ?_, fun d' nd' => ?_⟩
  · refine pairedApp (Paired.mapP hts fun t kv h => SqT.of (km _ _ h)) (.cons (SqT.of (Ex.one nm _ _ eq')) .nil)
  · have hb' : Bk K H (b ++ [(z, Pt)]) (kvs ++ [(Sum.inr z, v)]) := hb.app (.cons ⟨rfl, hp⟩ .nil)
    rw [mergeK_nodup hb' (nms_snoc hnd hz)]
    have kall := (k1.trans km).new (o := .dK (kvs ++ [(Sum.inr z, v)])) nd'
    exact hQ _ d' kall ((k1.trans km).nn nd') ⟨_, upd_same, hb'.tt kall.kt⟩

theorem lock_ex {H Hx : Hp} {d : Addr} {u : HO} {od : Obj} (h : H d = some u) (k : Ex (upd H d (.frz od u)) Hx) : Ex H (upd Hx d u) := fun a o q => by
  by_cases e : a = d
  · subst e
    rw [upd_same, ← h, q]
  · rw [upd_ne e]
    exact k a o (by rw [upd_ne e]; exact q)
abbrev N_behind : List Str := ["known", "reach", "deed", "word", "first", "rest", "name", "part"]
theorem sc_behind : FnScope N_behind ["known", "reach", "deed"] (defScope s_behind) := C8.fnScope_by (by decide +kernel)
def spBehind (K : PySem.W.Frag) : Sp := fun vs H Q _ => ∃ (d : Addr) (r : Nat) (v : V) (b : Book) (dd : Deed), vs = [.ref d, nI r, v] ∧ BookAt K H d b ∧ Dp K H v (encDeed dd) ∧ Fit b dd ∧ (nms_ b).Nodup ∧ b.length ≤ 900 ∧
  ∀ H' p d', Ex H H' → SqT K H' p [.ref d', nI (reachAfter r dd)] → BookAt K H' d' (bookAfter b dd) → Q (.ref p) H'
theorem ok_behind (T : Txt mg) (F : FnP K "behind" s_behind f fd) (g : mg "behind" = some (.ref f)) (c_put_in : Cal P w K mg base 1 "put_in" (spPutIn K)) : Cal P w K mg base 2 "behind" (spBehind K) := by
  have nd := sc_behind.nd
  refine mkCal F g (F.bindsN fun _ _ _ _ _ _ us hl => match us, hl with | [_, _, _], _ => rfl) sc_behind (fun vs H Q E ⟨_, _, _, _, _, h, _⟩ => by rw [h]; rfl) fun cdv A outer s H vs Q E hcd hr ⟨d, r, v, b, dd, hv, hbk, hp, fit, hnd, hl, hQ⟩ => ⟨_, (pss_cons (ps_asg (pv 2) (pg_star (n := 2) rfl (pgs_cons (pg_name (i := 3) nd rfl (Or.inl rfl)) (pgs_cons (pg_name (i := 4) nd rfl (Or.inr rfl)) (pgs_star (pg_name (i := 5) nd rfl (Or.inr rfl)))))))
    (pss_cons (ps_if (pt_cmpR op_eq (pv 3) pe_str (nomark _)) (pss_one (ps_ret (pe_tup (pa_cons (pv 0) (pa_cons (pv 4) pa_nil))))) pss_nil)
    (pss_cons (ps_if (pt_cmpR op_eq (pv 3) pe_str (nomark _)) (pss_one (ps_ret (pe_tup (pa_cons (C8.pe_c c_put_in hr (by decide) rfl (pa_cons (pv 0) (pa_cons (pv 4) (pa_cons (pe_ix (k_ixL (K := K)) (pv 5) pe_int (fun _ _ => rfl)) pa_nil)))) (pa_cons (pv 1) pa_nil))))) pss_nil)
    (pss_cons (ps_if (pt_cmp (pc_dnotin (hu_of hr) (pv 4) (pv 0))) (pss_one ps_never) pss_nil)
    (pss_cons (ps_if (pt_cmpR op_eq (pv 3) pe_str (nomark _)) (pss_one (ps_ret (pe_tup (pa_cons (pe_lock (pe_dc (own := [("name", 6), ("part", 7)]) (g := (gTup K 2 (gCons (gName 6) (gCons (gName 7) gNil)))) rfl nd (pi_items (pv 0)) (blkOk_by (N := N_behind) (sc := defScope s_behind) (by decide +kernel)) (fun _ _ _ _ _ => (pg_tup rfl (pgs_cons (pg_name (i := 6) nd rfl (Or.inl rfl)) (pgs_cons (pg_name (i := 7) nd rfl (Or.inl rfl)) pgs_nil)))) (fun _ _ _ _ _ => pts_nil) (fun _ _ _ _ _ => (pv 6)) (fun _ _ _ _ _ => (pe_ifExp (pt_cmpR op_eq (pv 6) (pv 4) (nomark _)) (pe_ix (k_ixL (K := K)) (pv 5) pe_int (fun _ _ => rfl)) (pv 7))))) (pa_cons (pv 1) pa_nil))))) pss_nil)
    (pss_one (ps_ret (pe_tup (pa_cons (pe_lock (pe_dc (own := [("name", 6), ("part", 7)]) (g := (gTup K 2 (gCons (gName 6) (gCons (gName 7) gNil)))) rfl nd (pi_items (pv 0)) (blkOk_by (N := N_behind) (sc := defScope s_behind) (by decide +kernel)) (fun _ _ _ _ _ => (pg_tup rfl (pgs_cons (pg_name (i := 6) nd rfl (Or.inl rfl)) (pgs_cons (pg_name (i := 7) nd rfl (Or.inl rfl)) pgs_nil)))) (fun _ _ _ _ _ => pts_one (pt_cmpR op_ne (pv 6) (pv 4) (nomark _))) (fun _ _ _ _ _ => (pv 6)) (fun _ _ _ _ _ => (pv 7)))) (pa_cons (pv 1) pa_nil)))))))))), ?_⟩
  subst hv
  obtain ⟨kvs, hd, hb⟩ := hbk
  have hkl := hb.length
  cases dd with
  | reach r' =>
    obtain ⟨a, xs, rfl, ha, da⟩ := dp_T hp
    cases da with
    | cons h1 h2 =>
      cases h1
      cases h2 with
      | cons h3 h4 =>
        cases h3
        cases h4
        refine ⟨_, rfl, a, _, rfl, ha, by show 2 ≤ 2; decide, fun D hD => ?_⟩
        refine ⟨_, _, rfl, _, _, rfl, _, _, rfl, rfl, ?_⟩
        refine ⟨_, rfl, rfl, true, by decide, ?_⟩
        refine ⟨_, rfl, _, rfl, by show 2 ≤ sizeLine; decide, fun p np => ?_⟩
        have k := (Ex.one (o := .lst []) hD).new (o := .tup [.ref d, nI r']) np
        exact hQ _ p d k (SqT.of upd_same) ⟨kvs, k _ _ hd, hb.tt k.kt⟩
  | put z Pt =>
    obtain ⟨a, xs, rfl, ha, da⟩ := dp_T hp
    cases da with
    | cons h1 h2 =>
      cases h1
      cases h2 with
      | cons h3 h4 =>
        cases h3
        cases h4 with
        | @cons pv0 _ _ _ h5 h6 =>
          cases h6
          refine ⟨_, rfl, a, _, rfl, ha, by show 2 ≤ 3; decide, fun D hD => ?_⟩
          refine ⟨_, _, rfl, _, _, rfl, _, _, rfl, rfl, ?_⟩
          refine ⟨_, rfl, rfl, false, by decide, ?_⟩
          refine ⟨_, rfl, rfl, true, by decide, ?_⟩
          have k := Ex.one (o := .lst [pv0]) hD
          refine ⟨_, rfl, _, rfl, _, rfl, D, _, 0, _, rfl, rfl, SqL.of upd_same, atI_nat (j := 0) rfl, ?_⟩
          refine ⟨d, z, _, b, Pt, rfl, ⟨kvs, k _ _ hd, hb.tt k.kt⟩, dp_ex k _ _ h5, fit.1, hnd, fit.2, fun H1 d' k1 n1 hb1 => ?_⟩
          refine ⟨_, rfl, by show 2 ≤ sizeLine; decide, fun p np => ?_⟩
          exact hQ _ p d' ((k.trans k1).new np) (SqT.of upd_same) (hb1.ex (Ex.one np))
  | move z Pt =>
    obtain ⟨a, xs, rfl, ha, da⟩ := dp_T hp
    cases da with
    | cons h1 h2 =>
      cases h1
      cases h2 with
      | cons h3 h4 =>
        cases h3
        cases h4 with
        | @cons pv0 _ _ _ h5 h6 =>
          cases h6
          refine ⟨_, rfl, a, _, rfl, ha, by show 2 ≤ 3; decide, fun D0 hD0 => ?_⟩
          refine ⟨_, _, rfl, _, _, rfl, _, _, rfl, rfl, ?_⟩
          refine ⟨_, rfl, rfl, false, by decide, ?_⟩
          refine ⟨_, rfl, rfl, false, by decide, ?_⟩
          have k := Ex.one (o := .lst [pv0]) hD0
          have e0 : upd H D0 (.lst [pv0]) D0 = some (.lst [pv0]) := upd_same
          have hd0 := k _ _ hd
          have hb0 := hb.tt k.kt
          have h50 := dp_ex k _ _ h5
          have hin := hb.has (z := z)
          rw [decide_eq_true (show z ∈ nms_ b from fit)] at hin
          refine ⟨_, rfl, _, rfl, d, _, rfl, DGet.k (k := Sum.inr z) hd0, false, congrArg V.bl (show (!(valV kvs (Sum.inr z)).isSome) = false by rw [hin]; rfl), ?_⟩
          refine ⟨_, rfl, rfl, true, by decide, ?_⟩
          have nd0 : D0 ≠ d := ne_of e0 hd0 (fun z => nomatch z)
          refine ⟨d, .dK kvs, hd0, trivial, fun od => ?_⟩
          have kl : Kt (upd H D0 (.lst [pv0])) (upd (upd H D0 (.lst [pv0])) d (.frz od (.dK kvs))) := Kt.put hd0 fun z => z
          have e1 : upd (upd H D0 (.lst [pv0])) d (.frz od (.dK kvs)) D0 = some (.lst [pv0]) := by rw [upd_ne nd0]; exact e0
          have e2 : upd (upd H D0 (.lst [pv0])) d (.frz od (.dK kvs)) d = some (.frz od (.dK kvs)) := upd_same
          have hb1 := hb0.tt kl
          have h51 := dp_tt kl _ _ (flat_P _) h50
          refine ⟨_, rfl, d, od, kvs, rfl, e2, fun D hD => ?_⟩
          have le := @lock_ex (upd H D0 (.lst [pv0]))
          let Hl : Hp := upd (upd H D0 (.lst [pv0])) d (.frz od (.dK kvs))
          refine walkW walk_items (fun i Hx => Ex Hl Hx ∧ ∃ kvs', Hx D = some (.dK kvs') ∧ Bk K Hx ((b.take i).map fun x => (x.1, if x.1 = z then Pt else x.2)) kvs') ⟨Ex.one hD, [], upd_same, .nil⟩ (fun i Hx _ hx => hx.1 _ _ e2) (fun i zz Hx H' hi hx yy => ?_) fun Hx hx => ?_
          · obtain ⟨kx, kvs', hD', hbx⟩ := hx
            obtain ⟨Tp, x1, x2, rfl, hT, rfl, y1, y2⟩ := yy
            obtain ⟨kv, hkv, rfl⟩ := Option.map_eq_some_iff.mp y1
            have y2' : (kvs[i]?).map Prod.snd = some x2 := y2
            rw [hkv] at y2'
            cases y2'
            obtain ⟨x, hx, ek, dx⟩ := Bk.get (kv := kv) (i := i) hb1 hkv
            obtain ⟨key, val⟩ := kv
            have ek' : key = Sum.inr x.1 := ek
            subst ek'
            refine ⟨Tp, _, rfl, SqT.of upd_same, rfl, _, _, rfl, ?_⟩
            refine ⟨_, _, rfl, rfl, rfl, ?_⟩
            refine ⟨_, rfl, ?_⟩
            have kT := Ex.one (o := .tup [kV (Sum.inr x.1), val]) hT
            have hDT := kT _ _ hD'
            have hnew : x.1 ∉ nms_ ((b.take i).map fun x => (x.1, if x.1 = z then Pt else x.2)) := by
              rw [nms_map]
              exact nms_new hnd hx
            have len : kvs'.length < sizeLine := by
              rw [← hbx.length, List.length_map]
              exact small1000 (Nat.le_trans (List.length_take_le _ _) (by have := (List.getElem?_eq_some_iff.mp hx).1; omega))
            have fin : ∀ v2, Dp K (upd Hx Tp (.tup [kV (Sum.inr x.1), val])) v2 (encP (if x.1 = z then Pt else x.2)) → Ex Hl (upd (upd Hx Tp (.tup [kV (Sum.inr x.1), val])) D (.dK (putK kvs' (Sum.inr x.1) v2))) ∧ ∃ kvs'', upd (upd Hx Tp (.tup [kV (Sum.inr x.1), val])) D (.dK (putK kvs' (Sum.inr x.1) v2)) D = some (.dK kvs'') ∧ Bk K (upd (upd Hx Tp (.tup [kV (Sum.inr x.1), val])) D (.dK (putK kvs' (Sum.inr x.1) v2))) ((b.take (i + 1)).map fun x => (x.1, if x.1 = z then Pt else x.2)) kvs'' := fun v2 dv2 => by
              rw [hbx.putNew hnew]
              refine ⟨(kx.new hT).loc hD, _, upd_same, ?_⟩
              rw [List.take_add_one, hx, List.map_append]
              have kk : Kt (upd Hx Tp (.tup [kV (Sum.inr x.1), val])) (upd (upd Hx Tp (.tup [kV (Sum.inr x.1), val])) D (.dK (kvs' ++ [(Sum.inr x.1, v2)]))) := Kt.put hDT fun z => z
              exact ((hbx.tt kT.kt).tt kk).app (.cons ⟨rfl, dp_tt kk _ _ (flat_P _) dv2⟩ .nil)
            by_cases c : x.1 = z
            · refine ⟨_, rfl, _, rfl, rfl, true, by simp [kV, c], ?_⟩
              refine ⟨_, rfl, D0, _, 0, _, rfl, rfl, SqL.of (kT _ _ (kx _ _ e1)), atI_nat (j := 0) rfl, kvs', Sum.inr x.1, rfl, hDT, len, fin _ ?_⟩
              rw [if_pos c]
              exact dp_ex (kx.trans kT) _ _ h51
            · refine ⟨_, rfl, _, rfl, rfl, false, by simp [kV, c], ?_⟩
              refine ⟨_, rfl, kvs', Sum.inr x.1, rfl, hDT, len, fin _ ?_⟩
              rw [if_neg c]
              exact dp_ex (kx.trans kT) _ _ dx
          · obtain ⟨kx, kvs', hD', hbx⟩ := hx
            rw [← hkl, List.take_length] at hbx
            have ndD : D ≠ d := fun e => by
              rw [e] at hD
              exact absurd (e2.symm.trans hD) (by simp)
            have kf : Ex H (upd Hx d (.dK kvs)) := k.trans (lock_ex hd0 kx)
            have kk : Kt Hx (upd Hx d (.dK kvs)) := Kt.put (kx _ _ e2) fun z => z
            refine ⟨kx _ _ e2, _, rfl, by show 2 ≤ sizeLine; decide, fun p np => ?_⟩
            exact hQ _ p D (kf.new np) (SqT.of upd_same) (BookAt.ex (Ex.one np) ⟨kvs', by rw [upd_ne ndD]; exact hD', hbx.tt kk⟩)
  | strike z =>
    obtain ⟨a, xs, rfl, ha, da⟩ := dp_T hp
    cases da with
    | cons h1 h2 =>
      cases h1
      cases h2 with
      | cons h3 h4 =>
        cases h3
        cases h4
        refine ⟨_, rfl, a, _, rfl, ha, by show 2 ≤ 2; decide, fun D0 hD0 => ?_⟩
        refine ⟨_, _, rfl, _, _, rfl, _, _, rfl, rfl, ?_⟩
        refine ⟨_, rfl, rfl, false, by decide, ?_⟩
        refine ⟨_, rfl, rfl, false, by decide, ?_⟩
        have k := Ex.one (o := .lst []) hD0
        have hd0 := k _ _ hd
        have hb0 := hb.tt k.kt
        have hin := hb.has (z := z)
        rw [decide_eq_true (show z ∈ nms_ b from fit)] at hin
        refine ⟨_, rfl, _, rfl, d, _, rfl, DGet.k (k := Sum.inr z) hd0, false, congrArg V.bl (show (!(valV kvs (Sum.inr z)).isSome) = false by rw [hin]; rfl), ?_⟩
        refine ⟨_, rfl, rfl, false, by decide, ?_⟩
        refine ⟨d, .dK kvs, hd0, trivial, fun od => ?_⟩
        have kl : Kt (upd H D0 (.lst [])) (upd (upd H D0 (.lst [])) d (.frz od (.dK kvs))) := Kt.put hd0 fun z => z
        have e2 : upd (upd H D0 (.lst [])) d (.frz od (.dK kvs)) d = some (.frz od (.dK kvs)) := upd_same
        have hb1 := hb0.tt kl
        refine ⟨_, rfl, d, od, kvs, rfl, e2, fun D hD => ?_⟩
        let Hl : Hp := upd (upd H D0 (.lst [])) d (.frz od (.dK kvs))
        refine walkW walk_items (fun i Hx => Ex Hl Hx ∧ ∃ kvs', Hx D = some (.dK kvs') ∧ Bk K Hx ((b.take i).filter fun x => decide (x.1 ≠ z)) kvs') ⟨Ex.one hD, [], upd_same, .nil⟩ (fun i Hx _ hx => hx.1 _ _ e2) (fun i zz Hx H' hi hx yy => ?_) fun Hx hx => ?_
        · obtain ⟨kx, kvs', hD', hbx⟩ := hx
          obtain ⟨Tp, x1, x2, rfl, hT, rfl, y1, y2⟩ := yy
          obtain ⟨kv, hkv, rfl⟩ := Option.map_eq_some_iff.mp y1
          have y2' : (kvs[i]?).map Prod.snd = some x2 := y2
          rw [hkv] at y2'
          cases y2'
          obtain ⟨x, hx, ek, dx⟩ := Bk.get (kv := kv) (i := i) hb1 hkv
          obtain ⟨key, val⟩ := kv
          have ek' : key = Sum.inr x.1 := ek
          subst ek'
          refine ⟨Tp, _, rfl, SqT.of upd_same, rfl, _, _, rfl, ?_⟩
          refine ⟨_, _, rfl, rfl, rfl, ?_⟩
          have kT := Ex.one (o := .tup [kV (Sum.inr x.1), val]) hT
          have hDT := kT _ _ hD'
          by_cases c : x.1 = z
          · refine ⟨_, rfl, _, rfl, rfl, false, by simp [kV, c], kx.new hT, kvs', hDT, ?_⟩
            rw [List.take_add_one, hx, List.filter_append]
            have e : List.filter (fun x : Str × Part => decide (x.1 ≠ z)) (some x).toList = [] := by simp [Option.toList, c]
            rw [e, List.append_nil]
            exact hbx.tt kT.kt
          · have hnew : x.1 ∉ nms_ ((b.take i).filter fun x => decide (x.1 ≠ z)) := fun q => nms_new hnd hx (nms_filter q)
            have len : kvs'.length < sizeLine := by
              rw [← hbx.length]
              exact small1000 (Nat.le_trans (List.length_filter_le _ _) (Nat.le_trans (List.length_take_le _ _) (by have := (List.getElem?_eq_some_iff.mp hx).1; omega)))
            refine ⟨_, rfl, _, rfl, rfl, true, by simp [kV, c], _, rfl, _, rfl, kvs', Sum.inr x.1, rfl, hDT, len, ?_⟩
            rw [hbx.putNew hnew]
            refine ⟨(kx.new hT).loc hD, _, upd_same, ?_⟩
            rw [List.take_add_one, hx, List.filter_append]
            have e : List.filter (fun x : Str × Part => decide (x.1 ≠ z)) (some x).toList = [x] := by simp [Option.toList, c]
            rw [e]
            have kk : Kt (upd Hx Tp (.tup [kV (Sum.inr x.1), val])) (upd (upd Hx Tp (.tup [kV (Sum.inr x.1), val])) D (.dK (kvs' ++ [(Sum.inr x.1, val)]))) := Kt.put hDT fun z => z
            exact ((hbx.tt kT.kt).tt kk).app (.cons ⟨rfl, dp_tt kk _ _ (flat_P _) (dp_ex (kx.trans kT) _ _ dx)⟩ .nil)
        · obtain ⟨kx, kvs', hD', hbx⟩ := hx
          rw [← hkl, List.take_length] at hbx
          have ndD : D ≠ d := fun e => by
            rw [e] at hD
            exact absurd (e2.symm.trans hD) (by simp)
          have kf : Ex H (upd Hx d (.dK kvs)) := k.trans (lock_ex hd0 kx)
          have kk : Kt Hx (upd Hx d (.dK kvs)) := Kt.put (kx _ _ e2) fun z => z
          refine ⟨kx _ _ e2, _, rfl, by show 2 ≤ sizeLine; decide, fun p np => ?_⟩
          exact hQ _ p D (kf.new np) (SqT.of upd_same) (BookAt.ex (Ex.one np) ⟨kvs', by rw [upd_ne ndD]; exact hD', hbx.tt kk⟩)
end
end J

set_option Elab.async false
set_option linter.all false
set_option maxRecDepth 100000
set_option maxHeartbeats 8000000
/-! JH: is_deed. -/
namespace J
open PySem PySem.Spec PyProof.Rows L2
/-- a local name that holds some def, called -/
def tCallAny (P : Program) (w : World) (K : PySem.W.Frag) (mg : Str → Option Value) (base : Heap) (j i : Nat) (t : TA) : TE := fun σ H Q => ∃ (f : Addr) (sp : Sp) (k : Nat), C8.CalAt P w K mg base k f sp ∧ k ≤ j ∧ σ[i]? = some (some (.ref f)) ∧ t σ H fun vs H1 => sp vs H1 Q C8.E0
theorem pe_callAny {X : Cx} {P : Program} {w : World} {K : PySem.W.Frag} {mg : Str → Option Value} {base : Heap} {i j : Nat} {x : Str} {p pos : Pos} {e : Expr} {es : List Expr} {t : TA} (hr : Room j X.A) (ha : PA X (e :: es) t) (hN : X.N[i]? = some x := by rfl)
    (hv : Vis X.env.scope x := by first | exact Or.inl rfl | exact Or.inr (Or.inl rfl) | exact Or.inr (Or.inr rfl))
    (hX : X.prog = P ∧ X.w = w ∧ X.K = K ∧ X.mg = mg ∧ X.base = base := by exact ⟨rfl, rfl, rfl, rfl, rfl⟩)
    (hd : (x == ("__debug__" : Str)) = false := by decide) (hcd : (x == ("__classdict__" : Str)) = false := by decide)
    (he : starEach (e :: es) X.env = (false, eval e X.env) :: starEach es X.env := by rfl) (hpl : (backTo pos (starEach es X.env)).any (·.1) = false := by rfl) :
    PE X (.Call (.Name x p) (e :: es) [] pos) (tCallAny P w K mg base j i t) := by
  have ⟨e1, e2, e3, e4, e5⟩ := hX
  subst e1 e2 e3 e4 e5
  refine ⟨fun pins s σ H Q I ⟨f, sp, k, ⟨fd, ps, F, kp, b⟩, le, at_i, args⟩ => ?_⟩
  have name := (pe_var (pos := p) hN hv hd hcd).run pins s σ H (fun v H1 => v = .ref f ∧ H1 = H) I ⟨_, at_i, rfl, rfl⟩
  refine wpAny_Call_Name_kw (thn name fun u s1 ⟨v, H1, I1, r1, ev, eH⟩ => ?_)
  subst ev eH
  cases r1
  exact PySem.W.callWith_K (h₀ := X.base) I.ok.mod.kin kp (thn (ha.run pos pins s1 σ _ _ I1 args) fun us s2 ⟨vs, H2, I2, r, q⟩ => ⟨I2.kIn, run_fn F (hr.mono le) b .nil C8.pass0 I2 r (by rw [List.append_nil]; exact q)⟩) he hpl
theorem calAt {P : Program} {w : World} {K : PySem.W.Frag} {mg : Str → Option Value} {base : Heap} {k : Nat} {x : Str} {sp : Sp} {f : Addr} (c : Cal P w K mg base k x sp) (g : mg x = some (.ref f)) : C8.CalAt P w K mg base k f sp := by
  obtain ⟨f', fd, ps, ds, F, hm, kp, b, d⟩ := c.ex
  have e : f' = f := by
    rw [hm] at g
    cases g
    rfl
  subst e
  cases d
  exact ⟨fd, ps, F, kp, b⟩
/-- what is known of FITS -/
structure TF (K : PySem.W.Frag) (mg : Str → Option Value) (w : World) (aF fN fP fR : Addr) : Prop where
  g : mg "FITS" = some (.ref aF)
  gN : mg "name_fits" = some (.ref fN)
  gP : mg "is_part" = some (.ref fP)
  gR : mg "reach_fits" = some (.ref fR)
  kd : ∃ es n, KDict K w aF es n
  put : ∃ tp, PySem.W.nsIn K aF "put" = some (some (.ref tp)) ∧ ∀ H, SqT K H tp [.ref fN, .ref fP]
  strike : ∃ tp, PySem.W.nsIn K aF "strike" = some (some (.ref tp)) ∧ ∀ H, SqT K H tp [.ref fN]
  move : ∃ tp, PySem.W.nsIn K aF "move" = some (some (.ref tp)) ∧ ∀ H, SqT K H tp [.ref fN, .ref fP]
  reach : ∃ tp, PySem.W.nsIn K aF "reach" = some (some (.ref tp)) ∧ ∀ H, SqT K H tp [.ref fR]
section
variable {P : Program} {w : World} {K : PySem.W.Frag} {mg : Str → Option Value} {base : Heap} {f : Addr} {fd : FuncData} {CW aF fN fP fR : Addr}
/-- what a deed is, seen by is_deed -/
theorem deed_see (TFt : TF K mg w aF fN fP fR) {H : Hp} {w0 : Addr} {ts : List Tree} {v : V} {dd : Deed} (hw : WorldAt K CW H w0 ts) (hd : Dp K H v (encDeed dd)) (ok : DeedOk ts dd)
    (cN : Cal P w K mg base 2 "name_fits" spNameF) (cP : Cal P w K mg base 5 "is_part" (spMakes K CW)) (cR : Cal P w K mg base 3 "reach_fits" spReachF) :
    ∃ (a : Addr) (word : Str) (vs : List V) (tp : Addr) (fs : List V), v = .ref a ∧ SqT K H a (.str word :: vs) ∧ PySem.W.nsIn K aF word = some (some (.ref tp)) ∧ (∀ H : Hp, SqT K H tp fs) ∧ fs.length = vs.length ∧ fs ≠ [] ∧ fs.length ≤ 2 ∧
      ∀ (i : Nat) (x y : V), fs[i]? = some x → vs[i]? = some y → ∀ Hx : Hp, Ex H Hx → ∀ Q : VK, (∀ H', Ex Hx H' → Q (.bl true) H') → ∃ (g : Addr) (sp : Sp) (k : Nat), C8.CalAt P w K mg base k g sp ∧ k ≤ 5 ∧ x = V.ref g ∧ sp [V.ref w0, y] Hx Q C8.E0 := by
  have aN := calAt cN TFt.gN
  have aP := calAt cP TFt.gP
  have aR := calAt cR TFt.gR
  cases dd with
  | put z Pt =>
    obtain ⟨a, xs, rfl, ha, da⟩ := dp_T hd
    cases da with
    | cons h1 h2 =>
      cases h1
      cases h2 with
      | cons h3 h4 =>
        cases h3
        cases h4 with
        | @cons pv0 _ _ _ h5 h6 =>
          cases h6
          obtain ⟨tp, n1, s1⟩ := TFt.put
          refine ⟨a, "put", [.str z, pv0], tp, _, rfl, ha, n1, s1, rfl, by simp, by simp, fun i x y hx hy Hx k Q q => ?_⟩
          match i, hx, hy with
          | 0, hx, hy =>
            cases hx
            cases hy
            exact ⟨fN, _, 2, aN, by decide, rfl, _, z, rfl, ok.1, q⟩
          | 1, hx, hy =>
            cases hx
            cases hy
            exact ⟨fP, _, 5, aP, by decide, rfl, w0, pv0, ts, Pt, rfl, hw.ex k, dp_ex k _ _ h5, ok.2, q⟩
          | i + 2, hx, hy => simp at hx
  | move z Pt =>
    obtain ⟨a, xs, rfl, ha, da⟩ := dp_T hd
    cases da with
    | cons h1 h2 =>
      cases h1
      cases h2 with
      | cons h3 h4 =>
        cases h3
        cases h4 with
        | @cons pv0 _ _ _ h5 h6 =>
          cases h6
          obtain ⟨tp, n1, s1⟩ := TFt.move
          refine ⟨a, "move", [.str z, pv0], tp, _, rfl, ha, n1, s1, rfl, by simp, by simp, fun i x y hx hy Hx k Q q => ?_⟩
          match i, hx, hy with
          | 0, hx, hy =>
            cases hx
            cases hy
            exact ⟨fN, _, 2, aN, by decide, rfl, _, z, rfl, ok.1, q⟩
          | 1, hx, hy =>
            cases hx
            cases hy
            exact ⟨fP, _, 5, aP, by decide, rfl, w0, pv0, ts, Pt, rfl, hw.ex k, dp_ex k _ _ h5, ok.2, q⟩
          | i + 2, hx, hy => simp at hx
  | strike z =>
    obtain ⟨a, xs, rfl, ha, da⟩ := dp_T hd
    cases da with
    | cons h1 h2 =>
      cases h1
      cases h2 with
      | cons h3 h4 =>
        cases h3
        cases h4
        obtain ⟨tp, n1, s1⟩ := TFt.strike
        refine ⟨a, "strike", [.str z], tp, _, rfl, ha, n1, s1, rfl, by simp, by simp, fun i x y hx hy Hx k Q q => ?_⟩
        match i, hx, hy with
        | 0, hx, hy =>
          cases hx
          cases hy
          exact ⟨fN, _, 2, aN, by decide, rfl, _, z, rfl, ok, q⟩
        | i + 1, hx, hy => simp at hx
  | reach r =>
    obtain ⟨a, xs, rfl, ha, da⟩ := dp_T hd
    cases da with
    | cons h1 h2 =>
      cases h1
      cases h2 with
      | cons h3 h4 =>
        cases h3
        cases h4
        obtain ⟨tp, n1, s1⟩ := TFt.reach
        refine ⟨a, "reach", [nI r], tp, _, rfl, ha, n1, s1, rfl, by simp, by simp, fun i x y hx hy Hx k Q q => ?_⟩
        match i, hx, hy with
        | 0, hx, hy =>
          cases hx
          cases hy
          exact ⟨fR, _, 3, aR, by decide, rfl, _, r, rfl, ok, q Hx Ex.refl⟩
        | i + 1, hx, hy => simp at hx
abbrev N_is_deed : List Str := ["world", "thing", "word", "rest", "fits", "fit", "part"]
theorem sc_is_deed : FnScope N_is_deed ["world", "thing"] (defScope s_is_deed) := C8.fnScope_by (by decide +kernel)
def spIsDeed (K : PySem.W.Frag) (CW : Addr) : Sp := fun vs H Q _ => ∃ w0 v ts dd, vs = [.ref w0, v] ∧ WorldAt K CW H w0 ts ∧ Dp K H v (encDeed dd) ∧ DeedOk ts dd ∧ ∀ H', Ex H H' → Q (.bl true) H'
theorem ok_is_deed (T : Txt mg) (TFt : TF K mg w aF fN fP fR) (F : FnP K "is_deed" s_is_deed f fd) (g : mg "is_deed" = some (.ref f)) (cN : Cal P w K mg base 2 "name_fits" spNameF) (cP : Cal P w K mg base 5 "is_part" (spMakes K CW)) (cR : Cal P w K mg base 3 "reach_fits" spReachF) :
    Cal P w K mg base 6 "is_deed" (spIsDeed K CW) := by
  have nd := sc_is_deed.nd
  have g_FITS : ∃ u, mg "FITS" = some u ∧ RelV (.ref aF) u := ⟨_, TFt.g, rfl⟩
  refine mkCal F g (F.bindsN fun _ _ _ _ _ _ us hl => match us, hl with | [_, _], _ => rfl) sc_is_deed (fun vs H Q E ⟨_, _, _, _, h, _⟩ => by rw [h]; rfl) fun cdv A outer s H vs Q E hcd hr ⟨w0, v, ts, dd, hv, hw, hd, ok, hQ⟩ => ⟨_, (pss_cons (ps_if (PW.pt (pw_or (pt_not (pt_val (pe_callB (k_isi (K := K)) rfl T.isi bt_isi (pa_cons (pv 1) (pa_cons (pe_bltn (v := .ty "tuple") rfl T.tuple bt_tuple rfl) pa_nil))))) (pw_or (pt_cmpR (k_eqE (K := K) (hu1_of hr)) (pv 1) (pe_tup pa_nil) (nomark _)) (pw_or1 (pt_not (pt_val (pe_callB (k_isi (K := K)) rfl T.isi bt_isi (pa_cons (pe_ix (k_ixT (K := K)) (pv 1) pe_int (fun _ _ => rfl)) (pa_cons (pe_bltn (v := .ty "str") rfl T.str bt_str rfl) pa_nil))))))))) (pss_one (ps_ret pe_bl)) pss_nil)
    (pss_cons (ps_asg (pv 1) (pg_star (n := 1) rfl (pgs_cons (pg_name (i := 2) nd rfl (Or.inl rfl)) (pgs_star (pg_name (i := 3) nd rfl (Or.inl rfl))))))
    (pss_cons (ps_set (i := 4) nd rfl (Or.inl rfl) (pe_kget (C8.pe_gc rfl g_FITS) (pv 2) (pe_tup pa_nil) ⟨rfl, rfl, rfl, rfl⟩))
    (pss_one (ps_ret (pe_and (pe_cmpR (k_neE (K := K) (hu1_of hr)) (pv 4) (pe_tup pa_nil) (nomark _)) (pe_and (pe_cmpR op_eq (pe_callB (k_len (K := K)) rfl T.len bt_len (pa_cons (pv 3) pa_nil)) (pe_callB (k_len (K := K)) rfl T.len bt_len (pa_cons (pv 4) pa_nil)) (nomark _)) (pe_one (pe_callB (k_all (K := K) rfl) rfl T.all bt_all (pa_cons (pe_lc (own := [("fit", 5), ("part", 6)]) (g := (gTup K 2 (gCons (gName 5) (gCons (gName 6) gNil)))) rfl nd (pi_zip2 true false rfl T.zip (pa_cons (pv 4) (pa_cons (pv 3) pa_nil))) (blkOk_by (N := N_is_deed) (sc := defScope s_is_deed) (by decide +kernel)) (fun _ _ _ _ _ => (pg_tup rfl (pgs_cons (pg_name (i := 5) nd rfl (Or.inl rfl)) (pgs_cons (pg_name (i := 6) nd rfl (Or.inl rfl)) pgs_nil)))) (fun _ _ _ _ _ => pts_nil) (fun _ _ _ _ _ => (pe_callAny (P := P) (w := w) (K := K) (mg := mg) (base := base) (i := 5) hr (pa_cons (pv 0) (pa_cons (pv 6) pa_nil))))) pa_nil)))))))))), ?_⟩
  subst hv
  obtain ⟨a, word, vs, tp, fs, rfl, ha, hns, hfs, hlen, hne, hl2, hcall⟩ := deed_see (P := P) (base := base) TFt hw hd ok cN cP cR
  obtain ⟨es, n, kd⟩ := TFt.kd
  refine ⟨_, rfl, _, _, _, _, true, rfl, .ty _, tyX_tup ha, kit_tt, true, rfl, ?_⟩
  refine ⟨_, rfl, by show 0 ≤ sizeLine; exact Nat.zero_le _, fun q nq => ?_⟩
  have k1 := Ex.one (o := .tup []) nq
  refine ⟨true, a, q, _, rfl, rfl, sqT_ex k1 ha, SqT.of upd_same, false, rfl, ?_⟩
  refine ⟨_, rfl, a, _, 0, _, rfl, rfl, sqT_ex k1 ha, atI_nat (j := 0) rfl, _, _, _, _, true, rfl, .ty _, tyX_str, kit_ss, true, rfl, ?_⟩
  refine ⟨_, rfl, a, _, rfl, sqT_ex k1 ha, by show 1 ≤ vs.length + 1; omega, fun D nD => ?_⟩
  have k2 := k1.new (o := .lst vs) nD
  refine ⟨_, _, rfl, _, _, rfl, rfl, ?_⟩
  refine ⟨aF, es, n, rfl, kd, _, rfl, by show 0 ≤ sizeLine; exact Nat.zero_le _, fun q2 nq2 => ?_⟩
  have k3 := k2.new (o := .tup []) nq2
  refine ⟨word, _, .ref tp, rfl, hns, rfl, ?_⟩
  refine ⟨_, rfl, by show 0 ≤ sizeLine; exact Nat.zero_le _, fun q3 nq3 => ?_⟩
  have k4 := k3.new (o := .tup []) nq3
  have eD : upd (upd (upd (upd H q (.tup [])) D (.lst vs)) q2 (.tup [])) q3 (.tup []) D = some (.lst vs) := ((Ex.one nq2).new nq3) _ _ upd_same
  have hfe : fs.isEmpty = false := by
    cases fs with
    | nil => exact absurd rfl hne
    | cons _ _ => rfl
  refine ⟨true, tp, q3, fs, rfl, rfl, hfs _, SqT.of upd_same, true, congrArg V.bl (show (!fs.isEmpty) = true by rw [hfe]; rfl), ?_⟩
  refine ⟨_, rfl, D, vs, rfl, .inl (SqL.of eD), _, rfl, tp, fs, rfl, .inr (hfs _), rfl, true, ?_, ?_⟩
  · show V.bl (decide (V.int (vs.length : Int) = V.int (fs.length : Int))) = V.bl true
    rw [hlen]
    simp
  refine ⟨_, rfl, _, rfl, tp, D, fs, vs, rfl, hfs _, SqL.of eD, fun L nL => ?_⟩
  refine lcE (walk_zip2 (t1 := true) (t2 := false) (xs := fs) (ys := vs) rfl) (fun _ => some ()) (fun _ v _ => v = .bl true) (by omega) nL (fun H k => ⟨hfs _, SqL.of (k _ _ eD)⟩) (fun _ _ _ _ _ h => h) (fun i z H2 H' QF QT hi k hys yy q1 q2 => ?_) fun H2 ys k hys pr => ?_
  · obtain ⟨Tp, x1, x2, rfl, hT, rfl, e1, e2⟩ := yy
    refine ⟨Tp, [x1, x2], rfl, SqT.of upd_same, rfl, _, _, rfl, ?_⟩
    refine ⟨_, _, rfl, rfl, rfl, ?_⟩
    obtain ⟨gf, sp, kk, c1, c2, rfl, c3⟩ := hcall i x1 x2 e1 e2 (upd H2 Tp (.tup [x1, x2])) ((k4.trans k).new hT) QT fun H' k' => q2 () rfl _ _ ((Ex.one hT).trans k') rfl
    exact ⟨gf, sp, kk, c1, c2, rfl, _, rfl, _, rfl, c3⟩
  · refine ⟨L, _, rfl, SqL.of (by rw [← paired_all_true (Hh := H2) pr]; exact hys), ?_⟩
    rw [all_rep]
    exact hQ H2 (k4.trans k)
end
end J

set_option Elab.async false
set_option linter.all false
set_option maxRecDepth 100000
set_option maxHeartbeats 8000000
/-! JI: the class Field: __init__, stand, step, do, back, back_to. -/
namespace J
open PySem PySem.Spec PyProof.Rows L2
/-! ### tuples and dicts stay -/
def MvL : HO → Prop
  | .tup _ => True
  | .frz _ (.tup _) => True
  | .dK _ => True
  | _ => False
def Mv (H H' : Hp) : Prop := ∀ a u, H a = some u → MvL u → H' a = some u
structure FS where
  r : Nat
  b : Book
  F : List Part
structure StOk (ts : List Tree) (st : FS) : Prop where
  nd : (nms_ st.b).Nodup
  ok : ∀ x ∈ st.b, POk ts x.2
  len : st.b.length ≤ 25
  stand : IsStand ts st.r (st.b.map (·.2)) st.F
  r48 : st.r ≤ 48
section
variable {K : PySem.W.Frag} {H H1 H' : Hp} {S : Addr → Prop}
theorem Mv.kt (k : Mv H H') : Kt H H' := fun a u h t => k a u h (by
  cases u with
  | tup _ => trivial
  | frz _ u => cases u <;> first | trivial | exact t.elim
  | _ => exact t.elim)
theorem Ex.mv (k : Ex H H') : Mv H H' := fun a u h _ => k a u h
theorem Mv.trans (k : Mv H H1) (k' : Mv H1 H') : Mv H H' := fun a u h t => k' a u (k a u h t) t
theorem Mv.put {a : Addr} {o u : HO} (h : H a = some u) (n : ¬ MvL u) : Mv H (upd H a o) := fun b w hb t => by
  have ne : b ≠ a := fun z => by
    subst z
    rw [h] at hb
    cases hb
    exact n t
  rw [upd_ne ne]
  exact hb
theorem BookAt.mv {d : Addr} {b : Book} (k : Mv H H') (h : BookAt K H d b) : BookAt K H' d b := by
  obtain ⟨kvs, h1, h2⟩ := h
  exact ⟨kvs, k _ _ h1 trivial, h2.tt k.kt⟩
def EntryAt (K : PySem.W.Frag) (H : Hp) (st : FS) (v : V) : Prop := ∃ a dv d kv, v = .ref a ∧ SqT K H a [dv, .ref d, nI st.r, kv] ∧ BookAt K H d st.b ∧ Dp K H kv (.tuple (st.F.map encP))
theorem EntryAt.mv {st : FS} {v : V} (k : Mv H H') (h : EntryAt K H st v) : EntryAt K H' st v := by
  obtain ⟨a, dv, d, kv, h1, h2, h3, h4⟩ := h
  exact ⟨a, dv, d, kv, h1, sqT_tt k.kt h2, h3.mv k, dp_tt k.kt _ _ (flat_Ps _) h4⟩
theorem Ex.off {B : Hp} {a : Addr} {o : HO} (k : Ex B H) (n : B a = none) : Ex B (upd H a o) := k.loc n
/-- a Field at f, its past at l -/
structure FieldAt (K : PySem.W.Frag) (CF CW : Addr) (B H : Hp) (f l w0 : Addr) (ts : List Tree) (bz : Bool) (st : FS) (sts : List FS) : Prop where
  ex : Ex B H
  nf : B f = none
  nl : B l = none
  wo : WorldAt K CW B w0 ts
  ok : StOk ts st
  oks : ∀ s ∈ sts, StOk ts s
  here : ∃ (dx : Addr) (tr : Nat) (d : Addr) (vk : V) (vs : List V), H f = some (.ins CF dx [("world", .ref w0), ("reach", nI st.r), ("busy", .bl bz), ("tries", nI tr), ("known", .ref d), ("kin", vk), ("past", .ref l)]) ∧
    H l = some (.lst vs) ∧ BookAt K H d st.b ∧ Dp K H vk (.tuple (st.F.map encP)) ∧ Paired (EntryAt K H) sts vs
theorem FieldAt.next {CF CW : Addr} {B : Hp} {f l w0 : Addr} {ts : List Tree} {bz : Bool} {st : FS} {sts : List FS} (h : FieldAt K CF CW B H f l w0 ts bz st sts) (k : Ex H H') : FieldAt K CF CW B H' f l w0 ts bz st sts := by
  obtain ⟨h1, h2, h3, h4, h5, h6, dx, tr, d, vk, vs, g1, g2, g3, g4, g5⟩ := h
  exact ⟨h1.trans k, h2, h3, h4, h5, h6, dx, tr, d, vk, vs, k _ _ g1, k _ _ g2, g3.ex k, dp_ex k _ _ g4, Paired.mapP g5 fun _ _ q => q.mv k.mv⟩
end
/-! ### plain facts -/
theorem len_share {α β : Type} [DecidableEq β] {R : β → α → Prop} : ∀ {F : List α} {Ps : List β}, F.Nodup → (∀ x ∈ F, ∃ p ∈ Ps, R p x) → (∀ p ∈ Ps, ∀ x ∈ F, ∀ y ∈ F, R p x → R p y → x = y) → F.length ≤ Ps.length
  | [], _, _, _, _ => Nat.zero_le _
  | x :: F, Ps, nd, h, u => by
    obtain ⟨p, hp, hx⟩ := h x List.mem_cons_self
    rw [List.nodup_cons] at nd
    have ih := len_share (F := F) (Ps := Ps.erase p) nd.2 (fun y hy => by
      obtain ⟨q, hq, hy'⟩ := h y (List.mem_cons_of_mem _ hy)
      refine ⟨q, (List.mem_erase_of_ne fun e => ?_).mpr hq, hy'⟩
      subst e
      have := u q hq x List.mem_cons_self y (List.mem_cons_of_mem _ hy) hx hy'
      subst this
      exact nd.1 hy) fun q hq a ha b hb => u q (List.mem_of_mem_erase hq) a (List.mem_cons_of_mem _ ha) b (List.mem_cons_of_mem _ hb)
    rw [List.length_erase_of_mem hp] at ih
    have := List.length_pos_of_mem hp
    rw [List.length_cons]
    omega
theorem IsStand.len {T : List Tree} {r : Nat} {Ps F : List Part} (hT : TsOk T) (hP : ∀ P ∈ Ps, POk T P) (h : IsStand T r Ps F) : F.length ≤ Ps.length := by
  refine len_share (R := fun P Q => Ins P Q) h.nd (fun R hR => Classical.byContradiction fun no => ?_) fun P hPs R hR R' hR' i i' => Classical.byContradiction fun ne => ?_
  · have u : Under Ps (F.filter fun Q => decide (Q ≠ R)) := fun P hPs => by
      obtain ⟨Q, hQ, i⟩ := h.under P hPs
      refine ⟨Q, List.mem_filter.mpr ⟨hQ, decide_eq_true fun e => no ⟨P, hPs, ?_⟩⟩, i⟩
      rw [← e]
      exact i
    have fm : Fam T r (F.filter fun Q => decide (Q ≠ R)) := ⟨fun P hq => h.fam.1 P (List.mem_filter.mp hq).1, fun P hq Q hq' => h.fam.2 P (List.mem_filter.mp hq).1 Q (List.mem_filter.mp hq').1⟩
    obtain ⟨Q, hQ, i⟩ := h.fine _ fm u R hR
    have hq := List.mem_filter.mp hQ
    exact of_decide_eq_true hq.2 (h.fam.one hT hR hq.1 i).symm
  · have l := h.fam.2 R hR R' hR' ne
    have m := far_mono (hP P hPs) (h.fam.1 R hR) (hP P hPs) (h.fam.1 R' hR') i i'
    rw [far_ins hT (hP P hPs) (hP P hPs) (ins_refl P)] at m
    omega
theorem after_ok {ts : List Tree} {b : Book} {dd : Deed} (hn : (nms_ b).Nodup) (ho : ∀ x ∈ b, POk ts x.2) (hl : b.length ≤ 25) (ft : Fit b dd) (ok : DeedOk ts dd) :
    (nms_ (bookAfter b dd)).Nodup ∧ (∀ x ∈ bookAfter b dd, POk ts x.2) ∧ (bookAfter b dd).length ≤ 25 := by
  cases dd with
  | put z Pt =>
    refine ⟨nms_snoc hn ft.1, fun x hx => ?_, ?_⟩
    · rcases List.mem_append.mp hx with q | q
      · exact ho x q
      · rw [List.mem_singleton.mp q]
        exact ok.2
    · show (b ++ [(z, Pt)]).length ≤ 25
      have := ft.2
      rw [List.length_append, List.length_singleton]
      omega
  | strike z =>
    refine ⟨?_, fun x hx => ho x (List.mem_filter.mp hx).1, Nat.le_trans (List.length_filter_le _ _) hl⟩
    exact hn.sublist (List.Sublist.map _ List.filter_sublist)
  | move z Pt =>
    refine ⟨by show (nms_ (b.map _)).Nodup; rw [nms_map]; exact hn, fun x hx => ?_, by show (b.map _).length ≤ 25; rw [List.length_map]; exact hl⟩
    obtain ⟨y, hy, rfl⟩ := List.mem_map.mp hx
    by_cases e : y.1 = z
    · rw [if_pos e]
      exact ok.2
    · rw [if_neg e]
      exact ho y hy
  | reach r => exact ⟨hn, ho, hl⟩
theorem after_r {ts : List Tree} {r : Nat} {dd : Deed} (h : r ≤ 48) (ok : DeedOk ts dd) : reachAfter r dd ≤ 48 := by
  cases dd with
  | reach r' => exact ok
  | _ => exact h
theorem Bk.vals {K : PySem.W.Frag} {H : Hp} : ∀ {b : Book} {kvs : List (Key × V)}, Bk K H b kvs → DpAll K H (kvs.map (·.2)) ((b.map (·.2)).map encP)
  | _, _, .nil => .nil
  | _, _, .cons r t => .cons r.2 (Bk.vals t)
theorem paired_snoc {α β : Type} {R : α → β → Prop} : ∀ {xs : List α} {x : α} {ys : List β}, Paired R (xs ++ [x]) ys → ∃ ys0 y, ys = ys0 ++ [y] ∧ Paired R xs ys0 ∧ R x y
  | [], _, _, .cons r .nil => ⟨[], _, rfl, .nil, r⟩
  | a :: xs, x, _, .cons r t => by
    obtain ⟨ys0, y, rfl, h1, h2⟩ := paired_snoc (xs := xs) t
    exact ⟨_ :: ys0, y, rfl, .cons r h1, h2⟩
/-- what is known of the class Field at CF -/
structure TD (K : PySem.W.Frag) (mg : Str → Option Value) (CF : Addr) : Prop where
  cl : Cls K CF
  n1 : NoAttr K CF "world"
  n2 : NoAttr K CF "reach"
  n3 : NoAttr K CF "busy"
  n4 : NoAttr K CF "tries"
  n5 : NoAttr K CF "known"
  n6 : NoAttr K CF "kin"
  n7 : NoAttr K CF "past"
  g : mg "Field" = some (.ref CF)
section
variable {P : Program} {w : World} {K : PySem.W.Frag} {mg : Str → Option Value} {base : Heap} {f : Addr} {fd : FuncData} {CW CF : Addr}
abbrev N_Field_init : List Str := ["self", "world", "reach"]
theorem sc_Field_init : FnScope N_Field_init ["self", "world", "reach"] (defScope s_Field_init) := C8.fnScope_by (by decide +kernel)
def spFieldI (K : PySem.W.Frag) (CF CW : Addr) : Sp := fun vs H Q _ => ∃ (B : Hp) (x dx w0 : Addr) (r : Nat) (ts : List Tree), vs = [.ref x, .ref w0, nI r] ∧ H x = some (.ins CF dx []) ∧ WorldAt K CW B w0 ts ∧ Ex B H ∧ B x = none ∧ r ≤ 48 ∧
  ∀ H' l, Kp (fun a => a = x) H H' → H l = none → FieldAt K CF CW B H' x l w0 ts false ⟨r, [], []⟩ [] → Q .non H'
theorem ok_Field_init (T : Txt mg) (D : TD K mg CF) {kws : List (Str × V)} (F : FunD K "__init__" "Field.__init__" (defArgs s_Field_init) (defBody s_Field_init) (defScope s_Field_init) [] kws f fd) (c_check_world : Cal P w K mg base 1 "check_world" (spCheckW K CW)) (c_check_reach : Cal P w K mg base 3 "check_reach" spCheckR) :
    FnOk P w K mg base L2.CX0 4 f fd ["self", "world", "reach"] (spFieldI K CF CW) := by
  have nd := sc_Field_init.nd
  refine fnOk_of F sc_Field_init (fun vs H Q E ⟨_, _, _, _, _, _, h, _⟩ => by rw [h]; rfl) fun cdv A outer s H vs Q E hcd hr ⟨B, x, dx, w0, r, ts, hv, hx, hw, kB, nx, r48, hQ⟩ => ⟨_, (pss_cons (ps_expr (C8.pe_c c_check_world hr (by decide) rfl (pa_cons (pv 1) pa_nil)))
    (pss_cons (ps_expr (C8.pe_c c_check_reach hr (by decide) rfl (pa_cons (pv 2) pa_nil)))
    (pss_cons (ps_asg (pe_tup (pa_cons (pv 1) (pa_cons (pv 2) (pa_cons pe_bl (pa_cons pe_int pa_nil))))) (pg_tup rfl (pgs_cons (pg_fld (pv 0)) (pgs_cons (pg_fld (pv 0)) (pgs_cons (pg_fld (pv 0)) (pgs_cons (pg_fld (pv 0)) pgs_nil))))))
    (pss_one (ps_asg (pe_tup (pa_cons pe_dnewK (pa_cons (pe_tup pa_nil) (pa_cons (pe_lst pa_nil) pa_nil)))) (pg_tup rfl (pgs_cons (pg_fld (pv 0)) (pgs_cons (pg_fld (pv 0)) (pgs_cons (pg_fld (pv 0)) pgs_nil))))))))), ?_⟩
  subst hv
  obtain ⟨dw, vt, vb, hw1, _⟩ := id hw
  refine ⟨_, rfl, w0, dw, _, rfl, kB _ _ hw1, ?_⟩
  refine ⟨_, rfl, r, rfl, r48, ?_⟩
  refine ⟨_, rfl, _, rfl, by show 4 ≤ sizeLine; decide, fun q nq => ?_⟩
  have k1 := Kp.refl.new (S := fun a => a = x) (o := .tup [.ref w0, nI r, .bl false, nI 0]) nq
  have nqx : x ≠ q := ne_of_none hx nq
  have h1 : upd H q (.tup [.ref w0, nI r, .bl false, nI 0]) x = some (.ins CF dx []) := by rw [upd_ne nqx]; exact hx
  refine ⟨q, _, rfl, SqT.of upd_same, rfl, _, _, rfl, _, rfl, x, CF, dx, [], rfl, h1, D.cl, D.n1, by decide, ?_⟩
  refine ⟨_, _, rfl, _, rfl, x, CF, dx, _, rfl, upd_same, D.cl, D.n2, by show 1 < 1000; decide, ?_⟩
  refine ⟨_, _, rfl, _, rfl, x, CF, dx, _, rfl, upd_same, D.cl, D.n3, by show 2 < 1000; decide, ?_⟩
  refine ⟨_, _, rfl, _, rfl, x, CF, dx, _, rfl, upd_same, D.cl, D.n4, by show 3 < 1000; decide, rfl, ?_⟩
  refine fun d hd => ?_
  refine ⟨by show 0 ≤ sizeLine; exact Nat.zero_le _, fun e he => ?_⟩
  refine ⟨by show 0 ≤ sizeLine; exact Nat.zero_le _, fun l hl => ?_⟩
  refine ⟨by show 3 ≤ sizeLine; decide, fun q2 nq2 => ?_⟩
  let Ha : Hp := upd H q (.tup [.ref w0, nI r, .bl false, nI 0])
  let o4 : List (Str × V) := [("world", .ref w0), ("reach", nI r), ("busy", .bl false), ("tries", nI 0)]
  let Hb : Hp := upd (upd (upd (upd Ha x (.ins CF dx [("world", .ref w0)])) x (.ins CF dx [("world", .ref w0), ("reach", nI r)])) x (.ins CF dx [("world", .ref w0), ("reach", nI r), ("busy", .bl false)])) x (.ins CF dx o4)
  have eb : Hb = upd Ha x (.ins CF dx o4) := by
    show upd (upd (upd (upd Ha x _) x _) x _) x _ = _
    rw [upd_upd, upd_upd, upd_upd]
  have ki : Kp (fun a => a = x) H (upd Ha x (.ins CF dx o4)) := k1.put rfl fun u hu => by
    rw [hx] at hu
    cases hu
    exact fun z => z
  have hd' : upd Ha x (.ins CF dx o4) d = none := by rw [← eb]; exact hd
  have he' : upd (upd Ha x (.ins CF dx o4)) d (.dK []) e = none := by rw [← eb]; exact he
  have hl' : upd (upd (upd Ha x (.ins CF dx o4)) d (.dK [])) e (.tup []) l = none := by rw [← eb]; exact hl
  have nq2' : upd (upd (upd (upd Ha x (.ins CF dx o4)) d (.dK [])) e (.tup [])) l (.lst []) q2 = none := by rw [← eb]; exact nq2
  have hxb : upd Ha x (.ins CF dx o4) x = some (.ins CF dx o4) := upd_same
  have ke := (((Ex.one (o := .dK []) hd').new (o := .tup []) he').new (o := .lst []) hl').new (o := .tup [.ref d, .ref e, .ref l]) nq2'
  let o5 : List (Str × V) := o4 ++ ([("known", .ref d)] : List (Str × V))
  let o6 : List (Str × V) := o4 ++ ([("known", .ref d), ("kin", .ref e)] : List (Str × V))
  let o7 : List (Str × V) := o4 ++ ([("known", .ref d), ("kin", .ref e), ("past", .ref l)] : List (Str × V))
  let Hc : Hp := upd (upd (upd (upd (upd Ha x (.ins CF dx o4)) d (.dK [])) e (.tup [])) l (.lst [])) q2 (.tup [.ref d, .ref e, .ref l])
  suffices h : Q .non (upd (upd (upd Hc x (.ins CF dx o5)) x (.ins CF dx o6)) x (.ins CF dx o7)) by
    have ec : upd (upd (upd (upd Hb d (.dK [])) e (.tup [])) l (.lst [])) q2 (.tup [.ref d, .ref e, .ref l]) = Hc := by rw [eb]
    refine ⟨q2, _, rfl, SqT.of upd_same, rfl, _, _, rfl, _, rfl, x, CF, dx, o4, rfl, ?_, D.cl, D.n5, by show 4 < 1000; decide, ?_⟩
    · exact (congrFun ec x).trans (ke _ _ hxb)
    refine ⟨_, _, rfl, _, rfl, x, CF, dx, _, rfl, upd_same, D.cl, D.n6, by show 5 < 1000; decide, ?_⟩
    refine ⟨_, _, rfl, _, rfl, x, CF, dx, _, rfl, upd_same, D.cl, D.n7, by show 6 < 1000; decide, rfl, ?_⟩
    rw [← ec] at h
    exact h
  rw [upd_upd, upd_upd]
  have nn1 : ∀ a, upd Ha x (.ins CF dx o4) a = none → a ≠ x ∧ H a = none := fun a ha => by
    have ne : a ≠ x := fun z => by
      rw [z, upd_same] at ha
      cases ha
    rw [upd_ne ne] at ha
    exact ⟨ne, (Ex.one nq).nn ha⟩
  obtain ⟨dx1, hHd⟩ := nn1 d hd'
  obtain ⟨lx1, hHl⟩ := nn1 l (((Ex.one (o := .dK []) hd').new (o := .tup []) he').nn hl')
  have kk := (ki.trans ke.kp).put (o := .ins CF dx o7) rfl fun u hu => by
    rw [hx] at hu
    cases hu
    exact fun z => z
  have hdc : Hc d = some (.dK []) := ((((Ex.refl (H := upd (upd Ha x (.ins CF dx o4)) d (.dK [])))).new (o := .tup []) he').new (o := .lst []) hl').new (o := .tup [.ref d, .ref e, .ref l]) nq2' _ _ upd_same
  have hlc : Hc l = some (.lst []) := (Ex.one (o := .tup [.ref d, .ref e, .ref l]) nq2') _ _ upd_same
  have hec : Hc e = some (.tup []) := ((Ex.refl (H := upd (upd (upd Ha x (.ins CF dx o4)) d (.dK [])) e (.tup []))).new (o := .lst []) hl').new (o := .tup [.ref d, .ref e, .ref l]) nq2' _ _ upd_same
  have nex : e ≠ x := fun z => by
    have q1 : Hc x = some (.tup []) := z ▸ hec
    have q3 : Hc x = some (.ins CF dx o4) := ke _ _ hxb
    rw [q1] at q3
    cases q3
  have nlB : B l = none := kB.nn hHl
  refine hQ _ l kk hHl ⟨?_, nx, nlB, hw, ⟨List.nodup_nil, fun _ h => (nomatch h), Nat.zero_le _, ⟨(by simp [srt] : ([] : List Part) = srt []), List.nodup_nil, ⟨fun _ h => (nomatch h), fun _ h => (nomatch h)⟩, fun _ h => (nomatch h), fun _ _ _ _ h => (nomatch h)⟩, r48⟩, fun _ h => (nomatch h), dx, 0, d, .ref e, [], upd_same, by rw [upd_ne lx1]; exact hlc, ⟨[], by rw [upd_ne dx1]; exact hdc, .nil⟩, .tup (SqT.of (by rw [upd_ne nex]; exact hec)) .nil, .nil⟩
  exact fun a o ha => kk a o (kB a o ha) fun z => by
    have z' : a = x := z
    rw [z', nx] at ha
    cases ha
/-! ### stand -/
abbrev N_Field_stand : List Str := ["self"]
theorem sc_Field_stand : FnScope N_Field_stand ["self"] (defScope s_Field_stand) := C8.fnScope_by (by decide +kernel)
def spStand (K : PySem.W.Frag) (CF CW : Addr) : Sp := fun vs H Q _ => ∃ (B : Hp) (f l w0 : Addr) (ts : List Tree) (bz : Bool) (st : FS) (sts : List FS), vs = [.ref f] ∧ FieldAt K CF CW B H f l w0 ts bz st sts ∧ ∀ v, Dp K H v (.tuple (st.F.map encP)) → Q v H
theorem ok_stand (D : TD K mg CF) (M : Meth K CF "stand" f) (F : FunD K "stand" "Field.stand" (defArgs s_Field_stand) (defBody s_Field_stand) (defScope s_Field_stand) [] [] f fd) : C8.Met P w K mg base 1 CF "stand" (spStand K CF CW) [] := by
  have nd := sc_Field_stand.nd
  refine ⟨f, fd, ["self"], [], D.cl, M, fnOk_of F sc_Field_stand (fun vs H Q E ⟨_, _, _, _, _, _, _, _, h, _⟩ => by rw [h]; rfl) fun cdv A outer s H vs Q E hcd hr ⟨B, x, l, w0, ts, bz, st, sts, hv, fa, hQ⟩ => ⟨_, (pss_one (ps_ret (kpe_fld (K := K) (pv 0) rfl))), ?_⟩, F.bindsN fun _ _ _ _ _ _ us hl => match us, hl with | [_], _ => rfl, .nil⟩
  subst hv
  obtain ⟨dx, tr, d, vk, vs, hf, hl, hb, hk, hp⟩ := fa.here
  exact ⟨_, rfl, x, CF, dx, _, vk, rfl, hf, D.cl, D.n6, rfl, hQ vk hk⟩
/-! ### step -/
abbrev N_Field_step : List Str := ["self", "deed", "known", "reach"]
theorem sc_Field_step : FnScope N_Field_step ["self", "deed"] (defScope s_Field_step) := C8.fnScope_by (by decide +kernel)
def spStep (K : PySem.W.Frag) (CF CW : Addr) : Sp := fun vs H Q _ => ∃ (B : Hp) (f l w0 : Addr) (ts : List Tree) (bz : Bool) (st : FS) (sts : List FS) (v : V) (dd : Deed), vs = [.ref f, v] ∧ FieldAt K CF CW B H f l w0 ts bz st sts ∧ Dp K H v (encDeed dd) ∧ Fit st.b dd ∧ DeedOk ts dd ∧ sts.length ≤ 900 ∧
  ∀ H' F', Kp (fun a => a = f ∨ a = l) H H' → FieldAt K CF CW B H' f l w0 ts bz ⟨reachAfter st.r dd, bookAfter st.b dd, F'⟩ (sts ++ [st]) → Q .non H'
theorem ok_step (T : Txt mg) (D : TD K mg CF) (M : Meth K CF "step" f) (F : FunD K "step" "Field.step" (defArgs s_Field_step) (defBody s_Field_step) (defScope s_Field_step) [] [] f fd)
    (c_behind : Cal P w K mg base 2 "behind" (spBehind K)) (c_closed : Cal P w K mg base 5 "closed" (spClosed K CW)) : C8.Met P w K mg base 6 CF "step" (spStep K CF CW) [] := by
  have nd := sc_Field_step.nd
  refine ⟨f, fd, ["self", "deed"], [], D.cl, M, fnOk_of F sc_Field_step (fun vs H Q E ⟨_, _, _, _, _, _, _, _, _, _, h, _⟩ => by rw [h]; rfl) fun cdv A outer s H vs Q E hcd hr ⟨B, x, l, w0, ts, bz, st, sts, v, dd, hv, fa, hd, fit, ok, hn, hQ⟩ => ⟨_, (pss_cons (ps_asg (C8.pe_c c_behind hr (by decide) rfl (pa_cons (kpe_fld (K := K) (pv 0) rfl) (pa_cons (kpe_fld (K := K) (pv 0) rfl) (pa_cons (pv 1) pa_nil)))) (pg_tup rfl (pgs_cons (pg_name (i := 2) nd rfl (Or.inl rfl)) (pgs_cons (pg_name (i := 3) nd rfl (Or.inl rfl)) pgs_nil))))
    (pss_cons (ps_expr (pe_bm PySem.F.plainAttrs_list PySem.F.slot_list_append PySem.F.type_list_append mt_append (kpe_fld (K := K) (pv 0) rfl) (pa_cons (pe_tup (pa_cons (pv 1) (pa_cons (kpe_fld (K := K) (pv 0) rfl) (pa_cons (kpe_fld (K := K) (pv 0) rfl) (pa_cons (kpe_fld (K := K) (pv 0) rfl) pa_nil))))) pa_nil)))
    (pss_cons (ps_asg (pe_tup (pa_cons (pv 2) (pa_cons (pv 3) pa_nil))) (pg_tup rfl (pgs_cons (pg_fld (pv 0)) (pgs_cons (pg_fld (pv 0)) pgs_nil))))
    (pss_one (ps_fld (pv 0) (C8.pe_c c_closed hr (by decide) rfl (pa_cons (kpe_fld (K := K) (pv 0) rfl) (pa_cons (pe_tupVals rfl (pv 2) rfl T.tuple bt_tuple) (pa_cons (pv 3) pa_nil)))) rfl))))), ?_⟩, F.bindsN fun _ _ _ _ _ _ us hl => match us, hl with | [_, _], _ => rfl, .nil⟩
  subst hv
  obtain ⟨dx, tr, d, vk, vs, hf, hl, hb, hk, hp⟩ := fa.here
  have lv : vs.length = sts.length := (Paired.length hp).symm
  obtain ⟨an, ao, al⟩ := after_ok fa.ok.nd fa.ok.ok fa.ok.len fit ok
  refine ⟨_, rfl, x, CF, dx, _, _, rfl, hf, D.cl, D.n5, rfl, _, rfl, x, CF, dx, _, _, rfl, hf, D.cl, D.n2, rfl, _, rfl, d, st.r, v, st.b, dd, rfl, hb, hd, fit, fa.ok.nd, Nat.le_trans fa.ok.len (by decide), fun H1 p d' k1 hp1 hb1 => ?_⟩
  refine ⟨p, _, rfl, hp1, rfl, _, _, rfl, _, _, rfl, rfl, ?_⟩
  have hf1 := k1 _ _ hf
  have hl1 := k1 _ _ hl
  refine ⟨_, rfl, x, CF, dx, _, _, rfl, hf1, D.cl, D.n7, rfl, .inl ⟨rfl, _, SqL.of hl1⟩, ?_⟩
  refine ⟨_, rfl, _, rfl, x, CF, dx, _, _, rfl, hf1, D.cl, D.n5, rfl, _, rfl, x, CF, dx, _, _, rfl, hf1, D.cl, D.n2, rfl, _, rfl, x, CF, dx, _, _, rfl, hf1, D.cl, D.n6, rfl, by show 4 ≤ sizeLine; decide, fun q nq => ?_⟩
  have hl2 := (Ex.one (o := .tup [v, .ref d, nI st.r, vk]) nq) _ _ hl1
  have hf2 := (Ex.one (o := .tup [v, .ref d, nI st.r, vk]) nq) _ _ hf1
  have nxl : x ≠ l := fun z => by
    rw [z, hl] at hf
    cases hf
  refine ⟨l, vs, _, rfl, rfl, hl2, small1000 (by omega), ?_⟩
  refine ⟨_, rfl, _, rfl, by show 2 ≤ sizeLine; decide, fun q2 nq2 => ?_⟩
  let o1 : List (Str × V) := [("world", .ref w0), ("reach", nI st.r), ("busy", .bl bz), ("tries", nI tr), ("known", .ref d'), ("kin", vk), ("past", .ref l)]
  let o2 : List (Str × V) := [("world", .ref w0), ("reach", nI (reachAfter st.r dd)), ("busy", .bl bz), ("tries", nI tr), ("known", .ref d'), ("kin", vk), ("past", .ref l)]
  let H2 : Hp := upd H1 q (.tup [v, .ref d, nI st.r, vk])
  let H3 : Hp := upd H2 l (.lst (vs ++ [.ref q]))
  let H4 : Hp := upd H3 q2 (.tup [.ref d', nI (reachAfter st.r dd)])
  let H5 : Hp := upd H4 x (.ins CF dx o1)
  let H6 : Hp := upd H5 x (.ins CF dx o2)
  have nxl' : l ≠ x := fun z => nxl z.symm
  have hf3 : H3 x = some (.ins CF dx [("world", .ref w0), ("reach", nI st.r), ("busy", .bl bz), ("tries", nI tr), ("known", .ref d), ("kin", vk), ("past", .ref l)]) := by
    show upd H2 l _ x = _
    rw [upd_ne nxl]
    exact hf2
  have hf4 : H4 x = _ := (Ex.one nq2) _ _ hf3
  have hf5 : H5 x = some (.ins CF dx o1) := upd_same
  have hf6 : H6 x = some (.ins CF dx o2) := upd_same
  refine ⟨q2, _, rfl, SqT.of upd_same, rfl, _, _, rfl, _, rfl, x, CF, dx, _, rfl, hf4, D.cl, D.n5, by show 7 < 1000; decide, ?_⟩
  refine ⟨_, _, rfl, _, rfl, x, CF, dx, _, rfl, hf5, D.cl, D.n2, by show 7 < 1000; decide, rfl, ?_⟩
  have kB6 : Ex B H6 := ((((((fa.ex.trans k1).new (o := .tup [v, .ref d, nI st.r, vk]) nq).loc fa.nl).new nq2).loc fa.nf).loc fa.nf)
  have m1 : Mv H H2 := (k1.mv).trans (Ex.one (o := .tup [v, .ref d, nI st.r, vk]) nq).mv
  have m3 : Mv H2 H3 := Mv.put hl2 fun z => z
  have m4 : Mv H3 H4 := (Ex.one nq2).mv
  have m5 : Mv H4 H5 := Mv.put hf4 fun z => z
  have m6 : Mv H5 H6 := Mv.put hf5 fun z => z
  have m46 := (m4.trans m5).trans m6
  have m36 := m3.trans m46
  have m26 : Mv H1 H6 := ((Ex.one (o := .tup [v, .ref d, nI st.r, vk]) nq).mv).trans m36
  have m06 := m1.trans m36
  have fx : ∀ u, H x = some u → ¬ Fixd u := fun u hu => by
    rw [hf] at hu
    cases hu
    exact fun z => z
  have fl : ∀ u, H l = some u → ¬ Fixd u := fun u hu => by
    rw [hl] at hu
    cases hu
    exact fun z => z
  have kp6 : Kp (fun a => a = x ∨ a = l) H H6 := (((((k1.kp.new nq).put (.inr rfl) fl).new nq2).put (.inl rfl) fx).put (.inl rfl) fx)
  obtain ⟨kvs, hd6, hb6⟩ := hb1.mv m26
  refine ⟨_, rfl, x, CF, dx, _, _, rfl, hf6, D.cl, D.n1, rfl, _, rfl, d', kvs, rfl, hd6, fun q3 nq3 => ?_⟩
  refine ⟨_, rfl, w0, .ref q3, reachAfter st.r dd, ts, List.map (fun (z : Str × Part) => z.2) (bookAfter st.b dd), rfl, fa.wo.ex (kB6.new nq3), .tup (SqT.of upd_same) (dpAll_ex (Ex.one nq3) _ _ hb6.vals), fun Pt hPt => ?_, by rw [List.length_map]; omega, fun H8 y F' k8 hy hs => ?_⟩
  · obtain ⟨z, hz, rfl⟩ := List.mem_map.mp hPt
    exact ao z hz
  have k68 := (Ex.one (o := .tup (kvs.map (·.2))) nq3).trans k8
  have hf8 := k68 _ _ hf6
  refine ⟨_, rfl, x, CF, dx, _, rfl, hf8, D.cl, D.n6, by show 7 < 1000; decide, ?_⟩
  have m8 : Mv H8 (upd H8 x (.ins CF dx [("world", .ref w0), ("reach", nI (reachAfter st.r dd)), ("busy", .bl bz), ("tries", nI tr), ("known", .ref d'), ("kin", y), ("past", .ref l)])) := Mv.put hf8 fun z => z
  have mz := k68.mv.trans m8
  refine hQ _ F' ((kp6.trans k68.kp).put (.inl rfl) fx) ⟨(kB6.trans k68).loc fa.nf, fa.nf, fa.nl, fa.wo, ⟨an, ao, al, hs, after_r fa.ok.r48 ok⟩, fun s1 hs1 => ?_, dx, tr, d', y, vs ++ [.ref q], upd_same, ?_, BookAt.mv mz ⟨kvs, hd6, hb6⟩, dp_tt m8.kt _ _ (flat_Ps _) hy, ?_⟩
  · rcases List.mem_append.mp hs1 with z | z
    · exact fa.oks _ z
    · rw [List.mem_singleton.mp z]
      exact fa.ok
  · rw [upd_ne nxl']
    refine k68 _ _ ?_
    show upd (upd H4 x _) x _ l = _
    rw [upd_ne nxl', upd_ne nxl']
    exact (Ex.one nq2) _ _ upd_same
  · refine pairedApp (Paired.mapP hp fun _ _ z => z.mv (m06.trans mz)) (.cons ⟨q, v, d, vk, rfl, ?_, (hb.mv m06).mv mz, dp_tt (m06.trans mz).kt _ _ (flat_Ps _) hk⟩ .nil)
    exact sqT_tt (m36.trans mz).kt (SqT.of upd_same)
end
end J

set_option Elab.async false
set_option linter.all false
set_option maxRecDepth 100000
set_option maxHeartbeats 8000000
/-! JL: the class Field: do, back, back_to. -/
namespace J
open PySem PySem.Spec PyProof.Rows L2
section
variable {P : Program} {w : World} {K : PySem.W.Frag} {mg : Str → Option Value} {base : Heap} {f : Addr} {fd : FuncData} {CW CF : Addr}
theorem FieldAt.flen {B H : Hp} {x l w0 : Addr} {ts : List Tree} {bz : Bool} {st : FS} {sts : List FS} (fa : FieldAt K CF CW B H x l w0 ts bz st sts) : st.F.length ≤ 100 := by
  obtain ⟨_, _, _, _, _, _, hT, _⟩ := fa.wo
  have h := fa.ok.stand.len hT (fun Pt hP => by
    obtain ⟨z, hz, rfl⟩ := List.mem_map.mp hP
    exact fa.ok.ok z hz)
  rw [List.length_map] at h
  have := fa.ok.len
  omega
/-! ### do -/
abbrev N_Field_do : List Str := ["self", "deed", "ahead"]
theorem sc_Field_do : FnScope N_Field_do ["self", "deed"] (defScope s_Field_do) := C8.fnScope_by (by decide +kernel)
def spDo (K : PySem.W.Frag) (CF CW : Addr) : Sp := fun vs H Q _ => ∃ (B : Hp) (f l w0 : Addr) (ts : List Tree) (bz : Bool) (st : FS) (sts : List FS) (v : V) (dd : Deed), vs = [.ref f, v] ∧ FieldAt K CF CW B H f l w0 ts bz st sts ∧ Dp K H v (encDeed dd) ∧ Fit st.b dd ∧ DeedOk ts dd ∧ sts.length ≤ 900 ∧
  ∀ H' F' p v1 v2, Kp (fun a => a = f ∨ a = l) H H' → FieldAt K CF CW B H' f l w0 ts bz ⟨reachAfter st.r dd, bookAfter st.b dd, F'⟩ (sts ++ [st]) → SqT K H' p [v1, v2] → Dp K H' v1 (.tuple ((st.F.filter fun P => !F'.contains P).map encP)) → Dp K H' v2 (.tuple ((F'.filter fun P => !st.F.contains P).map encP)) → Q (.ref p) H'
theorem flat_deed (dd : Deed) : flatD (encDeed dd) = true := by
  cases dd with
  | put z P => show (true && (true && (flatD (encP P) && true))) = true; rw [flat_P]; rfl
  | strike z => rfl
  | move z P => show (true && (true && (flatD (encP P) && true))) = true; rw [flat_P]; rfl
  | reach r => rfl
theorem ok_do (T : Txt mg) (D : TD K mg CF) (M : Meth K CF "do" f) (F : FunD K "do" "Field.do" (defArgs s_Field_do) (defBody s_Field_do) (defScope s_Field_do) [] [] f fd)
    (c_is_deed : Cal P w K mg base 6 "is_deed" (spIsDeed K CW)) (m_step : C8.Met P w K mg base 6 CF "step" (spStep K CF CW) []) (c_parted : Cal P w K mg base 1 "parted" (spParted K)) : C8.Met P w K mg base 7 CF "do" (spDo K CF CW) [] := by
  have nd := sc_Field_do.nd
  refine ⟨f, fd, ["self", "deed"], [], D.cl, M, fnOk_of F sc_Field_do (fun vs H Q E ⟨_, _, _, _, _, _, _, _, _, _, h, _⟩ => by rw [h]; rfl) fun cdv A outer s H vs Q E hcd hr ⟨B, x, l, w0, ts, bz, st, sts, v, dd, hv, fa, hd, fit, ok, hn, hQ⟩ => ⟨_, (pss_cons (ps_if (pt_not (pt_val (C8.pe_c c_is_deed hr (by decide) rfl (pa_cons (kpe_fld (K := K) (pv 0) rfl) (pa_cons (pv 1) pa_nil))))) (pss_one ps_never) pss_nil)
    (pss_cons (ps_set (i := 2) nd rfl (Or.inl rfl) (kpe_fld (K := K) (pv 0) rfl))
    (pss_cons (ps_expr (C8.pe_mt m_step hr (by decide) (pv 0) (pa_cons (pv 1) pa_nil)))
    (pss_one (ps_ret (C8.pe_c c_parted hr (by decide) rfl (pa_cons (pv 2) (pa_cons (kpe_fld (K := K) (pv 0) rfl) pa_nil)))))))), ?_⟩, F.bindsN fun _ _ _ _ _ _ us hl => match us, hl with | [_, _], _ => rfl, .nil⟩
  subst hv
  obtain ⟨dx, tr, d, vk, vs, hf, hl, hb, hk, hp⟩ := id fa.here
  refine ⟨_, rfl, x, CF, dx, _, _, rfl, hf, D.cl, D.n1, rfl, _, rfl, w0, v, ts, dd, rfl, fa.wo.ex fa.ex, hd, ok, fun H1 k1 => ⟨true, rfl, ?_⟩⟩
  refine ⟨_, rfl, x, CF, dx, _, _, rfl, k1 _ _ hf, D.cl, D.n6, rfl, ?_⟩
  refine ⟨_, rfl, x, dx, _, rfl, k1 _ _ hf, rfl, _, rfl, B, x, l, w0, ts, bz, st, sts, v, dd, rfl, fa.next k1, dp_ex k1 _ _ hd, fit, ok, hn, fun H2 F' k2 fa2 => ?_⟩
  obtain ⟨dx2, tr2, d2, vk2, vs2, hf2, hl2, hb2, hk2, hp2⟩ := id fa2.here
  refine ⟨_, rfl, _, rfl, x, CF, dx2, _, _, rfl, hf2, D.cl, D.n6, rfl, vk, vk2, st.F, F', rfl, dp_kp k2 _ _ (flat_Ps _) (dp_ex k1 _ _ hk), hk2, fa.flen, fa2.flen, fun H3 p v1 v2 k3 hp hv1 hv2 => ?_⟩
  exact hQ H3 F' p v1 v2 ((k1.kp.trans k2).trans k3.kp) (fa2.next k3) hp hv1 hv2
/-! ### back -/
abbrev N_Field_back : List Str := ["self", "deed"]
theorem sc_Field_back : FnScope N_Field_back ["self"] (defScope s_Field_back) := C8.fnScope_by (by decide +kernel)
def spBack (K : PySem.W.Frag) (CF CW : Addr) : Sp := fun vs H Q _ => ∃ (B : Hp) (f l w0 : Addr) (ts : List Tree) (bz : Bool) (st s1 : FS) (sts : List FS), vs = [.ref f] ∧ FieldAt K CF CW B H f l w0 ts bz st (sts ++ [s1]) ∧
  ∀ H', Kp (fun a => a = f ∨ a = l) H H' → FieldAt K CF CW B H' f l w0 ts bz s1 sts → Q .non H'
theorem ok_back (T : Txt mg) (D : TD K mg CF) (M : Meth K CF "back" f) (F : FunD K "back" "Field.back" (defArgs s_Field_back) (defBody s_Field_back) (defScope s_Field_back) [] [] f fd) : C8.Met P w K mg base 1 CF "back" (spBack K CF CW) [] := by
  have nd := sc_Field_back.nd
  refine ⟨f, fd, ["self"], [], D.cl, M, fnOk_of F sc_Field_back (fun vs H Q E ⟨_, _, _, _, _, _, _, _, _, h, _⟩ => by rw [h]; rfl) fun cdv A outer s H vs Q E hcd hr ⟨B, x, l, w0, ts, bz, st, s1, sts, hv, fa, hQ⟩ => ⟨_, (pss_cons (ps_if (pt_cmpR (k_eqE (K := K) (hu1_of hr)) (kpe_fld (K := K) (pv 0) rfl) (pe_lst pa_nil) (nomark _)) (pss_one ps_never) pss_nil)
    (pss_one (ps_asg (pe_bm0 PySem.F.plainAttrs_list PySem.F.slot_list_pop PySem.F.type_list_pop mt_pop (kpe_fld (K := K) (pv 0) rfl)) (pg_tup rfl (pgs_cons (pg_name (i := 1) nd rfl (Or.inl rfl)) (pgs_cons (pg_fld (pv 0)) (pgs_cons (pg_fld (pv 0)) (pgs_cons (pg_fld (pv 0)) pgs_nil)))))))), ?_⟩, F.bindsN fun _ _ _ _ _ _ us hl => match us, hl with | [_], _ => rfl, .nil⟩
  subst hv
  obtain ⟨dx, tr, d, vk, vs, hf, hl, hb, hk, hp⟩ := id fa.here
  obtain ⟨vs0, y, rfl, hp0, a, dv, d1, kv, rfl, ha, hb1, hk1⟩ := paired_snoc hp
  refine ⟨_, rfl, x, CF, dx, _, _, rfl, hf, D.cl, D.n7, rfl, by show 0 ≤ sizeLine; exact Nat.zero_le _, fun D0 nD => ?_⟩
  have k1 := Ex.one (o := .lst []) nD
  have hf1 := k1 _ _ hf
  have hl1 := k1 _ _ hl
  refine ⟨false, l, D0, _, rfl, rfl, SqL.of hl1, SqL.of upd_same, false, by cases vs0 <;> rfl, ?_⟩
  refine ⟨_, rfl, x, CF, dx, _, _, rfl, hf1, D.cl, D.n7, rfl, .inl ⟨rfl, _, SqL.of hl1⟩, l, _, .ref a, rfl, rfl, hl1, by simp, ?_⟩
  rw [List.dropLast_concat]
  have nxl : x ≠ l := fun z => by
    rw [z, hl] at hf
    cases hf
  have nxl' : l ≠ x := fun z => nxl z.symm
  let H1 : Hp := upd H D0 (.lst [])
  let H2 : Hp := upd H1 l (.lst vs0)
  have m2 : Mv H1 H2 := Mv.put hl1 fun z => z
  have hf2 : H2 x = _ := (upd_ne nxl).trans hf1
  have m02 := k1.mv.trans m2
  let o1 : List (Str × V) := [("world", .ref w0), ("reach", nI st.r), ("busy", .bl bz), ("tries", nI tr), ("known", .ref d1), ("kin", vk), ("past", .ref l)]
  let o2 : List (Str × V) := [("world", .ref w0), ("reach", nI s1.r), ("busy", .bl bz), ("tries", nI tr), ("known", .ref d1), ("kin", vk), ("past", .ref l)]
  let o3 : List (Str × V) := [("world", .ref w0), ("reach", nI s1.r), ("busy", .bl bz), ("tries", nI tr), ("known", .ref d1), ("kin", kv), ("past", .ref l)]
  let H3 : Hp := upd H2 x (.ins CF dx o1)
  let H4 : Hp := upd H3 x (.ins CF dx o2)
  let H5 : Hp := upd H4 x (.ins CF dx o3)
  have hf3 : H3 x = some (.ins CF dx o1) := upd_same
  have hf4 : H4 x = some (.ins CF dx o2) := upd_same
  refine ⟨a, _, rfl, sqT_tt m02.kt ha, rfl, _, _, rfl, _, _, rfl, _, rfl, x, CF, dx, _, rfl, hf2, D.cl, D.n5, by show 7 < 1000; decide, ?_⟩
  refine ⟨_, _, rfl, _, rfl, x, CF, dx, _, rfl, hf3, D.cl, D.n2, by show 7 < 1000; decide, ?_⟩
  refine ⟨_, _, rfl, _, rfl, x, CF, dx, _, rfl, hf4, D.cl, D.n6, by show 7 < 1000; decide, rfl, ?_⟩
  have m5 : Mv H2 H5 := ((Mv.put hf2 fun z => z).trans (Mv.put hf3 fun z => z)).trans (Mv.put hf4 fun z => z)
  have m05 := m02.trans m5
  have fx : ∀ u, H x = some u → ¬ Fixd u := fun u hu => by
    rw [hf] at hu
    cases hu
    exact fun z => z
  have fl : ∀ u, H l = some u → ¬ Fixd u := fun u hu => by
    rw [hl] at hu
    cases hu
    exact fun z => z
  refine hQ H5 (((((Kp.refl.new nD).put (.inr rfl) fl).put (.inl rfl) fx).put (.inl rfl) fx).put (.inl rfl) fx) ⟨((((fa.ex.new nD).loc fa.nl).loc fa.nf).loc fa.nf).loc fa.nf, fa.nf, fa.nl, fa.wo, fa.oks s1 (by simp), fun z hz => fa.oks z (List.mem_append_left _ hz), dx, tr, d1, kv, vs0, upd_same, ?_, hb1.mv m05, dp_tt m05.kt _ _ (flat_Ps _) hk1, Paired.mapP hp0 fun _ _ z => z.mv m05⟩
  show upd (upd (upd H2 x _) x _) x _ l = _
  rw [upd_ne nxl', upd_ne nxl', upd_ne nxl']
  exact upd_same
/-! ### back_to -/
abbrev N_Field_back_to : List Str := ["self", "many"]
theorem sc_Field_back_to : FnScope N_Field_back_to ["self", "many"] (defScope s_Field_back_to) := C8.fnScope_by (by decide +kernel)
def spBackTo (K : PySem.W.Frag) (CF CW : Addr) : Sp := fun vs H Q _ => ∃ (B : Hp) (f l w0 : Addr) (ts : List Tree) (bz : Bool) (many : Nat) (st : FS) (sts : List FS), vs = [.ref f, nI many] ∧ FieldAt K CF CW B H f l w0 ts bz st sts ∧ many ≤ sts.length ∧ sts.length ≤ 900 ∧
  ∀ H' st' sts' rest, Kp (fun a => a = f ∨ a = l) H H' → FieldAt K CF CW B H' f l w0 ts bz st' sts' → sts' ++ [st'] ++ rest = sts ++ [st] → sts'.length = many → Q .non H'
def WBt (K : PySem.W.Frag) (CF CW : Addr) (B H0 : Hp) (f l w0 : Addr) (ts : List Tree) (bz : Bool) (many : Nat) (st : FS) (sts : List FS) : Nat → L2.St → Hp → Prop := fun m σ H => σ = [some (.ref f), some (nI many)] ∧ Kp (fun a => a = f ∨ a = l) H0 H ∧ ∃ (st' : FS) (sts' rest : List FS),
  FieldAt K CF CW B H f l w0 ts bz st' sts' ∧ sts' ++ [st'] ++ rest = sts ++ [st] ∧ sts'.length = many + m
theorem ok_back_to (T : Txt mg) (D : TD K mg CF) (M : Meth K CF "back_to" f) (F : FunD K "back_to" "Field.back_to" (defArgs s_Field_back_to) (defBody s_Field_back_to) (defScope s_Field_back_to) [] [] f fd)
    (m_back : C8.Met P w K mg base 1 CF "back" (spBack K CF CW) []) : C8.Met P w K mg base 2 CF "back_to" (spBackTo K CF CW) [] := by
  have nd := sc_Field_back_to.nd
  refine ⟨f, fd, ["self", "many"], [], D.cl, M, fnOk_of F sc_Field_back_to (fun vs H Q E ⟨_, _, _, _, _, _, _, _, _, h, _⟩ => by rw [h]; rfl) fun cdv A outer s H vs Q E hcd hr ⟨B, x, l, w0, ts, bz, many, st, sts, hv, fa, hm, hn, hQ⟩ => ⟨_, (pss_one (ps_while PassesOwn.never (pt_cmpR op_gt (pe_callB (k_len (K := K)) rfl T.len bt_len (pa_cons (kpe_fld (K := K) (pv 0) rfl) pa_nil)) (pv 1) (nomark _)) (pss_one (ps_expr (C8.pe_mt0 m_back hr (by decide) (pv 0)))))), ?_⟩, F.bindsN fun _ _ _ _ _ _ us hl => match us, hl with | [_, _], _ => rfl, .nil⟩
  subst hv
  refine ⟨WBt K CF CW B H x l w0 ts bz many st sts, ⟨sts.length - many, rfl, Kp.refl, st, sts, [], fa, by simp, by omega⟩, ?_⟩
  rintro m σ H1 ⟨rfl, k1, st', sts', rest, fa1, he, hlen⟩
  obtain ⟨dx, tr, d, vk, vs, hf, hl, hb, hk, hp⟩ := id fa1.here
  have lv : vs.length = sts'.length := (Paired.length hp).symm
  have lb : sts'.length ≤ sts.length := by
    have := congrArg List.length he
    simp only [List.length_append, List.length_singleton] at this
    omega
  refine ⟨_, rfl, x, CF, dx, _, _, rfl, hf, D.cl, D.n7, rfl, l, _, rfl, .inl (SqL.of hl), _, rfl, _, _, rfl, rfl, ?_⟩
  cases m with
  | zero =>
    refine ⟨false, bF (by omega), ?_⟩
    exact hQ H1 st' sts' rest k1 fa1 he (by omega)
  | succ m =>
    refine ⟨true, bT (by omega), ?_⟩
    refine ⟨fun σ' H' => ∃ m', m' < m + 1 ∧ WBt K CF CW B H x l w0 ts bz many st sts m' σ' H', fun σ' H' h => h, ?_⟩
    obtain ⟨sts0, s1, rfl⟩ : ∃ sts0 s1, sts' = sts0 ++ [s1] := by
      have ne : sts' ≠ [] := fun z => by
        rw [z] at hlen
        simp at hlen
      exact ⟨sts'.dropLast, sts'.getLast ne, (List.dropLast_concat_getLast ne).symm⟩
    refine ⟨_, rfl, x, dx, _, rfl, hf, rfl, B, x, l, w0, ts, bz, st', s1, sts0, rfl, fa1, fun H2 k2 fa2 => ?_⟩
    refine ⟨m, Nat.lt_succ_self m, rfl, k1.trans k2, s1, sts0, [st'] ++ rest, fa2, by rw [← he]; simp, ?_⟩
    rw [List.length_append, List.length_singleton] at hlen
    omega
end
end J

set_option Elab.async false
set_option linter.all false
set_option maxRecDepth 100000
set_option maxHeartbeats 8000000
/-! JN: the class Field: run, tried. -/
namespace J
open PySem PySem.Spec PyProof.Rows L2
/-- try: body / finally: suite, where nothing raises -/
def tFinN (tb tf : TS) : TS := fun D σ H => tb { nx := fun σ1 H1 => tf D σ1 H1, rt := fun _ _ => False } σ H
theorem ps_finN {X : Cx} {body : List Stmt} {f₀ : Stmt} {fs : List Stmt} {pos : Pos} {tb tf : TS} (hb : PSs X.nox body tb) (hf : PSs X.nox (f₀ :: fs) tf) : PS X (.Try body [] [] (f₀ :: fs) pos) (tFinN tb tf) := by
  refine ⟨fun pins s σ H D I h => ?_⟩
  refine wpAny_Try_finally ?_
  refine wpAny_mono (hb.run pins s σ H { nx := fun σ1 H1 => tf D σ1 H1, rt := fun _ _ => False } (I.wish _) h) (fun g s1 z => ?_) fun _ _ z => False.elim z
  have z' : SP X pins { nx := fun σ1 H1 => tf D σ1 H1, rt := fun _ _ => False } g s1 := z.unwish
  cases g with
  | ret u =>
    obtain ⟨_, _, _, _, _, q⟩ := z'
    exact False.elim q
  | brk =>
    obtain ⟨_, _, _, q⟩ := z'
    exact False.elim q
  | cont =>
    obtain ⟨_, _, _, q⟩ := z'
    exact False.elim q
  | next =>
    obtain ⟨σ1, H1, J1, q1⟩ := z'
    refine wpAny_execs_nil ?_
    refine wpAny_mono (hf.run pins s1 σ1 H1 D (J1.wish _) q1) (fun g2 s2 q2 => ?_) fun _ _ e => False.elim e
    have q3 : SP X pins D g2 s2 := q2.unwish
    cases g2 <;> exact q3
section
variable {P : Program} {w : World} {K : PySem.W.Frag} {mg : Str → Option Value} {base : Heap} {f : Addr} {fd : FuncData} {CW CF : Addr}
theorem FieldAt.mark {B H : Hp} {x l w0 dx d : Addr} {vk : V} {tr tr' : Nat} {ts : List Tree} {bz bz' : Bool} {st : FS} {sts : List FS} (fa : FieldAt K CF CW B H x l w0 ts bz st sts)
    (hf : H x = some (.ins CF dx [("world", .ref w0), ("reach", nI st.r), ("busy", .bl bz), ("tries", nI tr), ("known", .ref d), ("kin", vk), ("past", .ref l)])) :
    FieldAt K CF CW B (upd H x (.ins CF dx [("world", .ref w0), ("reach", nI st.r), ("busy", .bl bz'), ("tries", nI tr'), ("known", .ref d), ("kin", vk), ("past", .ref l)])) x l w0 ts bz' st sts := by
  obtain ⟨h1, h2, h3, h4, h5, h6, dx0, tr0, d0, vk0, vs, g1, g2, g3, g4, g5⟩ := fa
  rw [hf] at g1
  injection g1 with g1
  injection g1 with _ gx gf
  injection gf with _ gf
  injection gf with _ gf
  injection gf with _ gf
  injection gf with _ gf
  injection gf with gd gf
  injection gf with gk gf
  injection gd with _ gd
  injection gd with gd
  injection gk with _ gk
  subst gd gk
  have m := Mv.put (o := .ins CF dx [("world", .ref w0), ("reach", nI st.r), ("busy", .bl bz'), ("tries", nI tr'), ("known", .ref d), ("kin", vk), ("past", .ref l)]) hf fun z => z
  have nl : l ≠ x := fun z => by
    rw [z, hf] at g2
    cases g2
  exact ⟨h1.loc h2, h2, h3, h4, h5, h6, dx, tr', d, vk, vs, upd_same, by rw [upd_ne nl]; exact g2, g3.mv m, dp_tt m.kt _ _ (flat_Ps _) g4, Paired.mapP g5 fun _ _ z => z.mv m⟩
theorem dpAll_D {H : Hp} {ds : List Deed} {xs : List V} {i : Nat} {x : V} (h : DpAll K H xs (ds.map encDeed)) (e : xs[i]? = some x) : ∃ dd, ds[i]? = some dd ∧ Dp K H x (encDeed dd) := by
  obtain ⟨d, hd, hx⟩ := dpAll_get' h e
  rw [List.getElem?_map] at hd
  obtain ⟨b, hb, eb⟩ := Option.map_eq_some_iff.mp hd
  exact ⟨b, hb, by rw [eb]; exact hx⟩
theorem flat_deeds : ∀ ds : List Deed, flatDs (ds.map encDeed) = true
  | [] => rfl
  | d :: ds => by
    show (flatD (encDeed d) && flatDs (ds.map encDeed)) = true
    rw [flat_deed, flat_deeds ds]
    rfl
/-! ### run -/
abbrev N_Field_run : List Str := ["self", "deeds", "ask", "odd", "past", "known", "reach", "kin", "was", "done", "number", "deed", "at"]
theorem sc_Field_run : FnScope N_Field_run ["self", "deeds", "ask"] (defScope s_Field_run) := C8.fnScope_by (by decide +kernel)
structure Way (st st' : FS) (sts sts' : List FS) (ds : List Deed) : Prop where
  b : st'.b = ds.foldl bookAfter st.b
  r : st'.r = ds.foldl reachAfter st.r
  len : sts'.length = sts.length + ds.length
  pre : ∃ rest, sts' ++ [st'] = sts ++ [st] ++ rest
theorem Way.start {st : FS} {sts : List FS} : Way st st sts sts [] := ⟨rfl, rfl, rfl, [], by simp⟩
theorem Way.more {st st' : FS} {sts sts' : List FS} {ds : List Deed} {dd : Deed} {F' : List Part} (h : Way st st' sts sts' ds) : Way st ⟨reachAfter st'.r dd, bookAfter st'.b dd, F'⟩ sts (sts' ++ [st']) (ds ++ [dd]) := by
  obtain ⟨h1, h2, h3, rest, h4⟩ := h
  refine ⟨?_, ?_, ?_, rest ++ [⟨reachAfter st'.r dd, bookAfter st'.b dd, F'⟩], ?_⟩
  · rw [List.foldl_append, ← h1]
    rfl
  · rw [List.foldl_append, ← h2]
    rfl
  · rw [List.length_append, List.length_append, h3]
    rfl
  · rw [h4, List.append_assoc (sts ++ [st])]
def spRun (K : PySem.W.Frag) (CF CW : Addr) : Sp := fun vs H Q _ => ∃ (B : Hp) (f l w0 : Addr) (ts : List Tree) (st : FS) (sts : List FS) (a : Addr) (xs : List V) (ds : List Deed), vs = [.ref f, .ref a, .non] ∧ FieldAt K CF CW B H f l w0 ts false st sts ∧ SqT K H a xs ∧ DpAll K H xs (ds.map encDeed) ∧ (∀ dd ∈ ds, DeedOk ts dd) ∧ (∀ i dd, ds[i]? = some dd → Fit ((ds.take i).foldl bookAfter st.b) dd) ∧ sts.length + ds.length ≤ 900 ∧
  ∀ H' st' sts', Kp (fun a => a = f ∨ a = l) H H' → FieldAt K CF CW B H' f l w0 ts false st' sts' → Way st st' sts sts' ds → Q .non H'
theorem ok_run (T : Txt mg) (D : TD K mg CF) (M : Meth K CF "run" f) (F : FunD K "run" "Field.run" (defArgs s_Field_run) (defBody s_Field_run) (defScope s_Field_run) [] [] f fd)
    (c_is_deed : Cal P w K mg base 6 "is_deed" (spIsDeed K CW)) (m_step : C8.Met P w K mg base 6 CF "step" (spStep K CF CW) []) : C8.Met P w K mg base 7 CF "run" (spRun K CF CW) [] := by
  have nd := sc_Field_run.nd
  refine ⟨f, fd, ["self", "deeds", "ask"], [], D.cl, M, fnOk_of F sc_Field_run (fun vs H Q E ⟨_, _, _, _, _, _, _, _, _, _, h, _⟩ => by rw [h]; rfl) fun cdv A outer s H vs Q E hcd hr ⟨B, x, l, w0, ts, st, sts, a, xs, ds, hv, fa, ha, da, ok, fit, hn, hQ⟩ => ⟨_, (pss_cons (ps_if (pt_not (pt_val (pe_callB (k_isi (K := K)) rfl T.isi bt_isi (pa_cons (pv 1) (pa_cons (pe_bltn (v := .ty "tuple") rfl T.tuple bt_tuple rfl) pa_nil))))) (pss_one ps_never) pss_nil)
    (pss_cons (ps_setLc (i := 3) (own := [("at", 12), ("deed", 11)]) (g := (gTup K 2 (gCons (gName 12) (gCons (gName 11) gNil)))) rfl nd rfl rfl (sw_true rfl rfl rfl (by decide +kernel)) (pi_enum2 true rfl T.enum (pa_cons (pv 1) pa_nil)) (blkOk_by (N := N_Field_run) (sc := defScope s_Field_run) (by decide +kernel)) (fun _ _ _ _ _ => (pg_tup rfl (pgs_cons (pg_name (i := 12) nd rfl (Or.inl rfl)) (pgs_cons (pg_name (i := 11) nd rfl (Or.inl rfl)) pgs_nil)))) (fun _ _ _ _ _ => pts_one (pt_not (pt_val (C8.pe_c c_is_deed hr (by decide) rfl (pa_cons (kpe_fld (K := K) (pv 0) rfl) (pa_cons (pv 11) pa_nil)))))) (fun _ _ _ _ _ => (pv 12)))
    (pss_cons (ps_if (pt_cmpR (k_neE (K := K) (hu1_of hr)) (pv 3) (pe_lst pa_nil) (nomark _)) (pss_one ps_never) pss_nil)
    (pss_cons (ps_asg (pe_tup (pa_cons (pe_callTy (k_list (K := K)) rfl T.list bt_list (pa_cons (kpe_fld (K := K) (pv 0) rfl) pa_nil)) (pa_cons (kpe_fld (K := K) (pv 0) rfl) (pa_cons (kpe_fld (K := K) (pv 0) rfl) (pa_cons (kpe_fld (K := K) (pv 0) rfl) pa_nil))))) (pg_tup rfl (pgs_cons (pg_name (i := 4) nd rfl (Or.inl rfl)) (pgs_cons (pg_name (i := 5) nd rfl (Or.inl rfl)) (pgs_cons (pg_name (i := 6) nd rfl (Or.inl rfl)) (pgs_cons (pg_name (i := 7) nd rfl (Or.inl rfl)) pgs_nil))))))
    (pss_cons (ps_par (i := 8) (j := 9) rfl nd rfl rfl (by decide) rfl rfl (pa_cons (kpe_fld (K := K) (pv 0) rfl) (pa_cons pe_non pa_nil)) rfl)
    (pss_cons (ps_asg (pe_tup (pa_cons (pe_op op_add (kpe_fld (K := K) (pv 0) rfl) pe_int) (pa_cons pe_bl pa_nil))) (pg_tup rfl (pgs_cons (pg_fld (pv 0)) (pgs_cons (pg_fld (pv 0)) pgs_nil))))
    (pss_one (ps_finN (pss_cons (ps_for PassesOwn.never rfl (pi_enum2 true rfl T.enum (pa_cons (pv 1) pa_nil)) (pg_tup rfl (pgs_cons (pg_name (i := 10) nd rfl (Or.inl rfl)) (pgs_cons (pg_name (i := 11) nd rfl (Or.inl rfl)) pgs_nil))) (pss_cons (ps_expr (C8.pe_mt m_step hr (by decide) (pv 0) (pa_cons (pv 11) pa_nil)))
    (pss_one (ps_if (pt_cmpR op_notN (pv 2) pe_non (nomark _)) (pss_one ps_never) pss_nil))))
    (pss_one (ps_set (i := 9) nd rfl (Or.inl rfl) pe_bl))) (pss_cons (ps_fld (pv 0) (pv 8) rfl)
    (pss_one (ps_if (pt_cmpR op_isN (pv 9) pe_non (nomark _)) (pss_one ps_never) pss_nil))))))))))), ?_⟩, F.bindsN fun _ _ _ _ _ _ us hl => match us, hl with | [_, _, _], _ => rfl, .nil⟩
  subst hv
  have lx : xs.length = ds.length := by rw [dpAll_length da, List.length_map]
  obtain ⟨dx, tr, d, vk, vs, hf, hl, hb, hk, hp⟩ := id fa.here
  refine ⟨_, rfl, _, _, _, _, true, rfl, .ty _, tyX_tup ha, kit_tt, true, rfl, ?_⟩
  -- odd
  refine ⟨_, rfl, a, xs, rfl, ha, fun D0 hD0 => ?_⟩
  refine lcE (walk_enum2 (t := true) (xs := xs)) (fun i => (none : Option Unit)) (fun _ v _ => v = .non) (by omega) hD0 (fun Hx k => sqT_ex k ha) (fun _ _ _ _ _ h => h) (fun i z Hx H' QF QT hi k hys yy q1 q2 => ?_) fun H1 ys k1 hys pr => ?_
  · obtain ⟨Tp, y1, y2, rfl, hT, rfl, e1, e2⟩ := yy
    obtain ⟨dd, hdd, hd1⟩ := dpAll_D da e2
    have k2 := k.new (o := .tup [y1, y2]) hT
    refine ⟨Tp, _, rfl, SqT.of upd_same, rfl, _, _, rfl, _, _, rfl, rfl, ?_⟩
    refine ⟨rfl, _, rfl, x, CF, dx, _, _, rfl, k2 _ _ hf, D.cl, D.n1, rfl, _, rfl, w0, y2, ts, dd, rfl, fa.wo.ex (fa.ex.trans k2), dp_ex k2 _ _ hd1, ok dd (List.mem_of_getElem? hdd), fun H3 k3 => ⟨true, rfl, ?_⟩⟩
    exact q1 rfl _ ((Ex.one hT).trans k3)
  have en : (List.range xs.length).filterMap (fun i => (none : Option Unit)) = [] := List.filterMap_eq_nil_iff.mpr fun _ _ => rfl
  rw [en] at pr
  cases pr
  refine ⟨_, rfl, by show 0 ≤ sizeLine; exact Nat.zero_le _, fun D1 n1 => ?_⟩
  refine ⟨false, D0, D1, [], rfl, rfl, SqL.of ((Ex.one n1) _ _ hys), SqL.of upd_same, false, rfl, ?_⟩
  have k2 := k1.new (o := .lst []) n1
  -- what was
  refine ⟨_, rfl, x, CF, dx, _, _, rfl, k2 _ _ hf, D.cl, D.n7, rfl, l, vs, rfl, .inl (SqL.of (k2 _ _ hl)), fun a3 n3 => ?_⟩
  have k3 := k2.new (o := .lst vs) n3
  refine ⟨_, rfl, x, CF, dx, _, _, rfl, k3 _ _ hf, D.cl, D.n5, rfl, _, rfl, x, CF, dx, _, _, rfl, k3 _ _ hf, D.cl, D.n2, rfl, _, rfl, x, CF, dx, _, _, rfl, k3 _ _ hf, D.cl, D.n6, rfl, by show 4 ≤ sizeLine; decide, fun q nq => ?_⟩
  have k4 := k3.new (o := .tup [.ref a3, .ref d, nI st.r, vk]) nq
  refine ⟨q, _, rfl, SqT.of upd_same, rfl, _, _, rfl, _, _, rfl, _, _, rfl, _, _, rfl, rfl, ?_⟩
  refine ⟨_, rfl, x, CF, dx, _, _, rfl, k4 _ _ hf, D.cl, D.n3, rfl, _, _, rfl, ?_⟩
  refine ⟨_, rfl, x, CF, dx, _, _, rfl, k4 _ _ hf, D.cl, D.n4, rfl, _, _, rfl, rfl, by show 2 ≤ sizeLine; decide, fun q2 nq2 => ?_⟩
  have k5 := k4.new (o := .tup [nI (tr + 1), .bl true]) nq2
  refine ⟨q2, _, rfl, SqT.of upd_same, rfl, _, _, rfl, _, rfl, x, CF, dx, _, rfl, k5 _ _ hf, D.cl, D.n4, by show 7 < 1000; decide, ?_⟩
  refine ⟨_, _, rfl, _, rfl, x, CF, dx, _, rfl, upd_same, D.cl, D.n3, by show 7 < 1000; decide, rfl, ?_⟩
  have fa6 := ((fa.next k5).mark (bz' := false) (tr' := tr + 1) (k5 _ _ hf)).mark (bz' := true) (tr' := tr + 1) upd_same
  have fx : ∀ u, H x = some u → ¬ Fixd u := fun u hu => by
    rw [hf] at hu
    cases hu
    exact fun z => z
  have kp6 := ((k5.kp (S := fun a => a = x ∨ a = l)).put (o := .ins CF dx [("world", .ref w0), ("reach", nI st.r), ("busy", .bl false), ("tries", nI (tr + 1)), ("known", .ref d), ("kin", vk), ("past", .ref l)]) (.inl rfl) fx).put (o := .ins CF dx [("world", .ref w0), ("reach", nI st.r), ("busy", .bl true), ("tries", nI (tr + 1)), ("known", .ref d), ("kin", vk), ("past", .ref l)]) (.inl rfl) fx
  -- the loop
  refine ⟨_, rfl, a, xs, rfl, sqT_kp kp6 ha, ?_⟩
  refine for_it (walk_enum2 (t := true) (xs := xs)) (fun i σ Hx => Kp (fun a => a = x ∨ a = l) H Hx ∧ ∃ (st' : FS) (sts' : List FS) (s10 s11 : Option V), σ = [some (.ref x), some (.ref a), some .non, some (.ref D0), some (.ref a3), some (.ref d), some (nI st.r), some vk, some (.bl false), some .non, s10, s11, none] ∧ FieldAt K CF CW B Hx x l w0 ts true st' sts' ∧ Way st st' sts sts' (ds.take i))
    ⟨kp6, st, sts, none, none, rfl, fa6, Way.start⟩ (fun i σ Hx _ hx => sqT_kp hx.1 ha) (fun i z σ Hx H' hi hxx yy => ?_) fun σ Hx hxx => ?_
  · obtain ⟨k, st', sts', s10, s11, rfl, fx1, way⟩ := hxx
    obtain ⟨Tp, y1, y2, rfl, hT, rfl, e1, e2⟩ := yy
    obtain ⟨dd, hdd, hd1⟩ := dpAll_D da e2
    have kn := k.new (o := .tup [y1, y2]) hT
    have fa7 := fx1.next (Ex.one (o := .tup [y1, y2]) hT)
    obtain ⟨dx7, tr7, d7, vk7, vs7, hf7, _⟩ := id fa7.here
    refine ⟨Tp, _, rfl, SqT.of upd_same, rfl, _, _, rfl, _, _, rfl, rfl, ?_⟩
    have hft := fit i dd hdd
    rw [← way.b] at hft
    have hlt : i < ds.length := (List.getElem?_eq_some_iff.mp hdd).1
    have hlw := way.len
    rw [List.length_take] at hlw
    refine ⟨_, rfl, x, dx7, _, rfl, hf7, rfl, _, rfl, B, x, l, w0, ts, true, st', sts', y2, dd, rfl, fa7, dp_kp kn _ _ (flat_deed dd) hd1, hft, ok dd (List.mem_of_getElem? hdd), by omega, fun H8 F' k8 fa8 => ?_⟩
    refine ⟨_, rfl, rfl, false, rfl, kn.trans k8, _, _, _, _, rfl, fa8, ?_⟩
    have w2 := way.more (dd := dd) (F' := F')
    rw [List.take_add_one, hdd]
    exact w2
  · obtain ⟨k, st', sts', s10, s11, rfl, fa8, way⟩ := hxx
    rw [List.take_of_length_le (by omega)] at way
    obtain ⟨dx8, tr8, d8, vk8, vs8, hf8, _⟩ := id fa8.here
    refine ⟨_, rfl, _, rfl, x, CF, dx8, _, rfl, hf8, D.cl, D.n3, by show 7 < 1000; decide, ?_⟩
    refine ⟨_, rfl, rfl, false, rfl, ?_⟩
    exact hQ _ st' sts' (k.put (.inl rfl) fx) (fa8.mark (bz' := false) (tr' := tr8) hf8) way
/-! ### tried -/
abbrev N_Field_tried : List Str := ["self", "deeds", "mark", "kin"]
theorem sc_Field_tried : FnScope N_Field_tried ["self", "deeds"] (defScope s_Field_tried) := C8.fnScope_by (by decide +kernel)
def spTried (K : PySem.W.Frag) (CF CW : Addr) : Sp := fun vs H Q _ => ∃ (B : Hp) (f l w0 : Addr) (ts : List Tree) (st : FS) (sts : List FS) (a : Addr) (xs : List V) (ds : List Deed), vs = [.ref f, .ref a] ∧ FieldAt K CF CW B H f l w0 ts false st sts ∧ SqT K H a xs ∧ DpAll K H xs (ds.map encDeed) ∧ (∀ dd ∈ ds, DeedOk ts dd) ∧ (∀ i dd, ds[i]? = some dd → Fit ((ds.take i).foldl bookAfter st.b) dd) ∧ sts.length + ds.length ≤ 900 ∧
  ∀ H' y F', Kp (fun a => a = f ∨ a = l) H H' → FieldAt K CF CW B H' f l w0 ts false st sts → Dp K H' y (.tuple (F'.map encP)) → IsStand ts (ds.foldl reachAfter st.r) ((ds.foldl bookAfter st.b).map (·.2)) F' → Q y H'
theorem ok_tried (T : Txt mg) (D : TD K mg CF) (M : Meth K CF "tried" f) (F : FunD K "tried" "Field.tried" (defArgs s_Field_tried) (defBody s_Field_tried) (defScope s_Field_tried) [] [] f fd)
    (m_run : C8.Met P w K mg base 7 CF "run" (spRun K CF CW) []) (m_back_to : C8.Met P w K mg base 2 CF "back_to" (spBackTo K CF CW) []) : C8.Met P w K mg base 8 CF "tried" (spTried K CF CW) [] := by
  have nd := sc_Field_tried.nd
  refine ⟨f, fd, ["self", "deeds"], [], D.cl, M, fnOk_of F sc_Field_tried (fun vs H Q E ⟨_, _, _, _, _, _, _, _, _, _, h, _⟩ => by rw [h]; rfl) fun cdv A outer s H vs Q E hcd hr ⟨B, x, l, w0, ts, st, sts, a, xs, ds, hv, fa, ha, da, ok, fit, hn, hQ⟩ => ⟨_, (pss_cons (ps_set (i := 2) nd rfl (Or.inl rfl) (pe_callB (k_len (K := K)) rfl T.len bt_len (pa_cons (kpe_fld (K := K) (pv 0) rfl) pa_nil)))
    (pss_cons (ps_expr (C8.pe_mt m_run hr (by decide) (pv 0) (pa_cons (pv 1) (pa_cons pe_non pa_nil))))
    (pss_cons (ps_set (i := 3) nd rfl (Or.inl rfl) (kpe_fld (K := K) (pv 0) rfl))
    (pss_cons (ps_expr (C8.pe_mt m_back_to hr (by decide) (pv 0) (pa_cons (pv 2) pa_nil)))
    (pss_one (ps_ret (pv 3))))))), ?_⟩, F.bindsN fun _ _ _ _ _ _ us hl => match us, hl with | [_, _], _ => rfl, .nil⟩
  subst hv
  obtain ⟨dx, tr, d, vk, vs, hf, hl, hb, hk, hp⟩ := id fa.here
  have lv : vs.length = sts.length := (Paired.length hp).symm
  refine ⟨_, rfl, x, CF, dx, _, _, rfl, hf, D.cl, D.n7, rfl, l, _, rfl, .inl (SqL.of hl), ?_⟩
  refine ⟨_, rfl, x, dx, _, rfl, hf, rfl, _, rfl, B, x, l, w0, ts, st, sts, a, xs, ds, rfl, fa, ha, da, ok, fit, hn, fun H1 st1 sts1 k1 fa1 way => ?_⟩
  obtain ⟨dx1, tr1, d1, vk1, vs1, hf1, hl1, hb1, hk1, hp1⟩ := id fa1.here
  refine ⟨_, rfl, x, CF, dx1, _, _, rfl, hf1, D.cl, D.n6, rfl, ?_⟩
  have wl := way.len
  refine ⟨_, rfl, x, dx1, _, rfl, hf1, rfl, _, rfl, B, x, l, w0, ts, false, sts.length, st1, sts1, by rw [lv]; rfl, fa1, by omega, by omega, fun H2 st2 sts2 rest k2 fa2 he hlen => ?_⟩
  obtain ⟨rest', hr'⟩ := way.pre
  rw [hr'] at he
  have e2 : sts2 = sts ∧ st2 = st := by
    rw [List.append_assoc, List.append_assoc] at he
    obtain ⟨e1, e2⟩ := List.append_inj he hlen
    injection e2 with e2
    exact ⟨e1, e2⟩
  obtain ⟨rfl, rfl⟩ := e2
  have hs := fa1.ok.stand
  rw [way.b, way.r] at hs
  exact ⟨_, rfl, hQ H2 vk1 st1.F (k1.trans k2) fa2 (dp_kp k2 _ _ (flat_Ps _) hk1) hs⟩
end
end J

set_option Elab.async false
set_option linter.all false
set_option maxRecDepth 100000
set_option maxHeartbeats 8000000
/-! JO: the law's cell, purse, pick, wood, grove. -/
namespace J
open PySem PySem.Spec PyProof.Rows L2
theorem cut_map {α : Type} (g : α → V) (l : List α) (j : Nat) : cutV (l.map g) none (some (j : Int)) = (l.take j).map g := by
  unfold cutV
  rw [HT.sIx_none, HT.sIx_nat, List.drop_zero, Nat.sub_zero, List.length_map, ← List.map_take]
  congr 1
  by_cases h : j ≤ l.length
  · rw [Nat.min_eq_left h]
  · rw [Nat.min_eq_right (by omega), List.take_of_length_le (Nat.le_refl _), List.take_of_length_le (by omega)]
theorem nz : (1000000289 : Int) ≠ 0 := by decide
/-- from values that each have a witness, the row of the witnesses -/
theorem paired_ex {α β : Type} {R : α → β → V → Prop} : ∀ {us : List α} {ys : List V}, Paired (fun (a : α) (v : V) => ∃ b, R a b v) us ys → ∃ bs : List β, bs.length = us.length ∧ ys.length = us.length ∧ ∀ (i : Nat) (a : α) (b : β) (v : V), us[i]? = some a → bs[i]? = some b → ys[i]? = some v → R a b v
  | _, _, .nil => ⟨[], rfl, rfl, fun i a b v h => by simp at h⟩
  | _, _, .cons ⟨b, r⟩ t => by
    obtain ⟨bs, h1, h2, h3⟩ := paired_ex t
    refine ⟨b :: bs, by rw [List.length_cons, List.length_cons, h1], by rw [List.length_cons, List.length_cons, h2], fun i a c v e1 e2 e3 => ?_⟩
    cases i with
    | zero =>
      simp only [List.getElem?_cons_zero, Option.some.injEq] at e1 e2 e3
      subst e1 e2 e3
      exact r
    | succ i => exact h3 i a c v (by simpa using e1) (by simpa using e2) (by simpa using e3)
def PurseAt (H : Hp) (p : Addr) : Prop := ∃ a b c : Int, H p = some (.lst [.int a, .int b, .int c])
theorem PurseAt.ex {H H' : Hp} {p : Addr} (k : Ex H H') (h : PurseAt H p) : PurseAt H' p := by
  obtain ⟨a, b, c, h⟩ := h
  exact ⟨a, b, c, k _ _ h⟩
theorem PurseAt.fix {H : Hp} {p : Addr} (h : PurseAt H p) : ∀ u, H p = some u → ¬ Fixd u := fun u hu => by
  obtain ⟨a, b, c, h⟩ := h
  rw [h] at hu
  cases hu
  exact fun z => z
section
variable {P : Program} {w : World} {K : PySem.W.Frag} {mg : Str → Option Value} {base : Heap} {f : Addr} {fd : FuncData}
abbrev N_lw_cell : List Str := ["_law_script", "_law_k", "_law_state", "_law_cell_here"]
theorem sc_lw_cell : FnScope N_lw_cell ["_law_script", "_law_k"] (defScope s_lw_cell) := C8.fnScope_by (by decide +kernel)
def spCell (K : PySem.W.Frag) : Sp := fun vs H Q _ => ∃ (a : Addr) (k : Nat) (ns : List Int), vs = [.ref a, nI k] ∧ SqL K H a (ns.map V.int) ∧ k ≤ 100 ∧ ∀ H' i, Ex H H' → Q (.int i) H'
theorem ok_lw_cell (T : Txt mg) (F : FnP K "_law_cell" s_lw_cell f fd) (g : mg "_law_cell" = some (.ref f)) : Cal P w K mg base 1 "_law_cell" (spCell K) := by
  have nd := sc_lw_cell.nd
  refine mkCal F g (F.bindsN fun _ _ _ _ _ _ us hl => match us, hl with | [_, _], _ => rfl) sc_lw_cell (fun vs H Q E ⟨_, _, _, h, _⟩ => by rw [h]; rfl) fun cdv A outer s H vs Q E hcd hr ⟨a, k, ns, hv, ha, hk, hQ⟩ => ⟨_, (pss_cons (ps_if (pt_cmpR op_lt (pv 1) (pe_callB (k_len (K := K)) rfl T.len bt_len (pa_cons (pv 0) pa_nil)) (nomark _)) (pss_one (ps_ret (pe_ix (k_ixL (K := K)) (pv 0) (pv 1) (fun _ _ => rfl)))) pss_nil)
    (pss_cons (ps_set (i := 2) nd rfl (Or.inl rfl) (pe_op op_modN (pe_op op_mul pe_int (pe_op op_add (pe_op op_add (pe_op op_mul (pv 1) (pv 1)) (pe_op op_mul pe_int (pv 1))) pe_int)) pe_int))
    (pss_cons (ps_for PassesOwn.never rfl (kpi_list (K := K) (pe_slice (k_slL (K := K)) (pv 0) po_none (po_some pe_int))) (pg_name (i := 3) nd rfl (Or.inl rfl)) (pss_one (ps_set (i := 2) nd rfl (Or.inl rfl) (pe_op op_modN (pe_op op_add (pe_op op_mul (pv 2) pe_int) (pv 3)) pe_int))))
    (pss_one (ps_ret (pv 2)))))), ?_⟩
  subst hv
  refine ⟨_, rfl, _, rfl, a, _, rfl, .inl ha, _, _, rfl, rfl, ?_⟩
  by_cases c : k < ns.length
  · refine ⟨true, bT (by rw [List.length_map]; omega), ?_⟩
    have e : (ns.map V.int)[k]? = some (V.int ns[k]) := by rw [List.getElem?_map, List.getElem?_eq_getElem c]; rfl
    exact ⟨_, rfl, _, rfl, a, _, _, _, rfl, rfl, ha, atI_nat e, hQ H _ Ex.refl⟩
  · refine ⟨false, bF (by rw [List.length_map]; omega), ?_⟩
    have s1 : -(2 ^ 64) < (k : Int) ∧ (k : Int) < 2 ^ 64 := ⟨by omega, by omega⟩
    refine ⟨_, rfl, _, rfl, _, _, rfl, rfl, .inl s1, _, rfl, _, _, rfl, rfl, .inl ⟨by decide, by decide⟩, _, _, rfl, rfl, _, _, rfl, rfl, _, _, rfl, rfl, .inl ⟨by decide, by decide⟩, _, _, rfl, rfl, nz, ?_⟩
    refine ⟨_, rfl, _, rfl, a, _, rfl, ha, fun p np => ?_⟩
    have ec : cutV (ns.map V.int) none (some 4) = (ns.take 4).map V.int := cut_map V.int ns 4
    rw [ec]
    refine ⟨p, rfl, ⟨_, SqL.of upd_same⟩, ?_⟩
    refine for_it (walk_list (xs := (ns.take 4).map V.int)) (fun i σ Hx => Ex H Hx ∧ Hx p = some (.lst ((ns.take 4).map V.int)) ∧ ∃ (z : Int) (s3 : Option V), σ = [some (.ref a), some (nI k), some (.int z), s3]) ⟨Ex.one np, upd_same, _, _, rfl⟩ (fun i σ Hx _ hx => SqL.of hx.2.1) (fun i z σ Hx H' hi hxx yy => ?_) fun σ Hx hxx => ?_
    · obtain ⟨k1, h1, z1, s3, rfl⟩ := hxx
      obtain ⟨rfl, e⟩ := yy
      rw [List.getElem?_map] at e
      obtain ⟨y, hy, rfl⟩ := Option.map_eq_some_iff.mp e
      exact ⟨_, rfl, _, _, rfl, rfl, .inr ⟨by decide, by decide⟩, _, rfl, _, _, rfl, rfl, _, _, rfl, rfl, nz, k1, h1, _, _, rfl⟩
    · obtain ⟨k1, h1, z1, s3, rfl⟩ := hxx
      exact ⟨_, rfl, hQ Hx z1 k1⟩
abbrev N_lw_purse : List Str := ["_law_cell_here"]
theorem sc_lw_purse : FnScope N_lw_purse ["_law_cell_here"] (defScope s_lw_purse) := C8.fnScope_by (by decide +kernel)
def spPurse : Sp := fun vs H Q _ => ∃ i : Int, vs = [.int i] ∧ ∀ H' p, Ex H H' → H p = none → PurseAt H' p → Q (.ref p) H'
theorem ok_lw_purse (T : Txt mg) (F : FnP K "_law_purse" s_lw_purse f fd) (g : mg "_law_purse" = some (.ref f)) : Cal P w K mg base 1 "_law_purse" spPurse := by
  have nd := sc_lw_purse.nd
  refine mkCal F g (F.bindsN fun _ _ _ _ _ _ us hl => match us, hl with | [_], _ => rfl) sc_lw_purse (fun vs H Q E ⟨_, h, _⟩ => by rw [h]; rfl) fun cdv A outer s H vs Q E hcd hr ⟨i, hv, hQ⟩ => ⟨_, (pss_one (ps_ret (pe_lst (pa_cons (pe_op op_add (pe_op op_mul (pe_op op_modN (pv 0) pe_int) pe_int) pe_int) (pa_cons (pe_ix (k_ixL (K := K)) (pe_lst (pa_cons pe_int (pa_cons (pv 0) pa_nil))) (pe_callTy call_int1 rfl T.int bt_int (pa_cons (pe_cmpR op_ge (pv 0) (pe_op op_pow pe_int pe_int) (nomark _)) pa_nil)) (fun _ _ => rfl)) (pa_cons pe_int pa_nil)))))), ?_⟩
  subst hv
  refine ⟨_, rfl, _, _, rfl, rfl, nz, _, _, rfl, rfl, .inr ⟨by decide, by decide⟩, _, _, rfl, rfl, ?_⟩
  refine ⟨_, rfl, by show 2 ≤ sizeLine; decide, fun p np => ?_⟩
  refine ⟨_, rfl, _, _, rfl, rfl, ⟨by decide, by decide, by decide⟩, _, _, rfl, rfl, ?_⟩
  have fin : ∀ j : Int, ∀ q, upd H p (.lst [.int 0, .int i]) q = none → Q (.ref q) (upd (upd H p (.lst [.int 0, .int i])) q (.lst [.int (i.fmod 1000000289 * 7001 + 5003), .int j, .int 0])) := fun j q nq =>
    hQ _ q ((Ex.one np).new nq) ((Ex.one np).nn nq) ⟨_, _, _, upd_same⟩
  by_cases c : (10 : Int) ^ (18 : Int).toNat ≤ i
  · exact .inr ⟨true, congrArg (fun v => [v]) (bT c), p, _, _, _, rfl, rfl, SqL.of upd_same, rfl, by show 3 ≤ sizeLine; decide, fun q nq => fin i q nq⟩
  · exact .inr ⟨false, congrArg (fun v => [v]) (bF c), p, _, _, _, rfl, rfl, SqL.of upd_same, rfl, by show 3 ≤ sizeLine; decide, fun q nq => fin 0 q nq⟩
abbrev N_lw_pick : List Str := ["_law_purse_here", "_law_count", "_law_state", "_law_taken"]
theorem sc_lw_pick : FnScope N_lw_pick ["_law_purse_here", "_law_count"] (defScope s_lw_pick) := C8.fnScope_by (by decide +kernel)
def spPick : Sp := fun vs H Q _ => ∃ (p : Addr) (n : Nat), vs = [.ref p, nI n] ∧ PurseAt H p ∧ 0 < n ∧ n < 1000000 ∧ ∀ H' (r : Nat), Kp (fun a => a = p) H H' → PurseAt H' p → r < n → Q (nI r) H'
theorem pick_lt {z : Int} {n : Nat} (h : 0 < n) : ∃ r : Nat, r < n ∧ z.fmod (n : Int) = (r : Int) := by
  have h1 : 0 ≤ z.fmod (n : Int) := Int.fmod_nonneg_of_pos z (by omega)
  have h2 : z.fmod (n : Int) < (n : Int) := Int.fmod_lt_of_pos z (by omega)
  exact ⟨(z.fmod (n : Int)).toNat, by omega, by omega⟩
theorem ok_lw_pick (T : Txt mg) (F : FnP K "_law_pick" s_lw_pick f fd) (g : mg "_law_pick" = some (.ref f)) : Cal P w K mg base 1 "_law_pick" spPick := by
  have nd := sc_lw_pick.nd
  refine mkCal F g (F.bindsN fun _ _ _ _ _ _ us hl => match us, hl with | [_, _], _ => rfl) sc_lw_pick (fun vs H Q E ⟨_, _, h, _⟩ => by rw [h]; rfl) fun cdv A outer s H vs Q E hcd hr ⟨p, n, hv, hp, h0, hn, hQ⟩ => ⟨_, (pss_cons (ps_asg (pe_op op_add (pe_ix (k_ixL (K := K)) (pv 0) pe_int (fun _ _ => rfl)) pe_int) (pg_sub (pv 0) pe_int set_list))
    (pss_cons (ps_set (i := 2) nd rfl (Or.inl rfl) (pe_op op_modN (pe_ix (k_ixL (K := K)) (pv 0) pe_int (fun _ _ => rfl)) pe_int))
    (pss_cons (ps_asg (pe_op op_add (pe_op op_mul (pv 2) (pe_op op_add (pe_op op_modN (pv 2) pe_int) pe_int)) (pe_op op_mul pe_int (pe_ix (k_ixL (K := K)) (pv 0) pe_int (fun _ _ => rfl)))) (pg_sub (pv 0) pe_int set_list))
    (pss_cons (ps_if (pt_cmpR op_gt (pe_ix (k_ixL (K := K)) (pv 0) pe_int (fun _ _ => rfl)) pe_int (nomark _)) (pss_cons (ps_set (i := 3) nd rfl (Or.inl rfl) (pe_op op_modN (pe_ix (k_ixL (K := K)) (pv 0) pe_int (fun _ _ => rfl)) (pv 1)))
    (pss_cons (ps_asg (pe_op op_fdivN (pe_ix (k_ixL (K := K)) (pv 0) pe_int (fun _ _ => rfl)) (pv 1)) (pg_sub (pv 0) pe_int set_list))
    (pss_one (ps_ret (pv 3))))) pss_nil)
    (pss_one (ps_ret (pe_op op_modN (pe_op op_fdivN (pe_op op_modN (pe_ix (k_ixL (K := K)) (pv 0) pe_int (fun _ _ => rfl)) pe_int) pe_int) (pv 1)))))))), ?_⟩
  subst hv
  have fx := hp.fix
  obtain ⟨a, b, c, h⟩ := hp
  have nn : (n : Int) ≠ 0 := by omega
  refine ⟨_, rfl, p, _, _, _, rfl, rfl, SqL.of h, rfl, _, _, rfl, rfl, _, rfl, p, _, _, _, rfl, rfl, h, rfl, ?_⟩
  have h1 : upd H p (.lst [.int a, .int b, .int (c + 1)]) p = some (.lst [.int a, .int b, .int (c + 1)]) := upd_same
  refine ⟨_, rfl, p, _, _, _, rfl, rfl, SqL.of h1, rfl, _, _, rfl, rfl, nz, ?_⟩
  have e1 : 0 ≤ a.fmod 1000000289 := Int.fmod_nonneg_of_pos a (by decide)
  have e2 : a.fmod 1000000289 < 1000000289 := Int.fmod_lt_of_pos a (by decide)
  refine ⟨_, rfl, _, rfl, _, _, rfl, rfl, (by show (50021 : Int) ≠ 0; decide), _, _, rfl, rfl, _, _, rfl, rfl, .inl ⟨by show -(2 ^ 64) < a.fmod 1000000289; omega, by show a.fmod 1000000289 < 2 ^ 64; omega⟩, ?_⟩
  refine ⟨_, rfl, p, _, _, _, rfl, rfl, SqL.of h1, rfl, _, _, rfl, rfl, .inl ⟨by decide, by decide⟩, _, _, rfl, rfl, _, rfl, p, _, _, _, rfl, rfl, h1, rfl, ?_⟩
  let a2 : Int := a.fmod 1000000289 * ((a.fmod 1000000289).fmod 50021 + 20011) + 80021 * (c + 1)
  let H2 : Hp := upd (upd H p (.lst [.int a, .int b, .int (c + 1)])) p (.lst [.int a2, .int b, .int (c + 1)])
  have h2 : H2 p = some (.lst [.int a2, .int b, .int (c + 1)]) := upd_same
  have k2 : Kp (fun a => a = p) H H2 := ((Kp.refl (S := fun a => a = p)).put rfl fx).put rfl fx
  refine ⟨_, rfl, p, _, _, _, rfl, rfl, SqL.of h2, rfl, _, _, rfl, rfl, ?_⟩
  have c1 : (n : Int) ≠ 0 ∧ (n : Int).natAbs < 1073741824 := ⟨nn, by omega⟩
  by_cases hb : 0 < b
  · refine ⟨true, bT hb, ?_⟩
    refine ⟨_, rfl, p, _, _, _, rfl, rfl, SqL.of h2, rfl, _, rfl, _, _, rfl, rfl, nn, ?_⟩
    refine ⟨_, rfl, p, _, _, _, rfl, rfl, SqL.of h2, rfl, _, rfl, _, _, rfl, rfl, c1, _, rfl, p, _, _, _, rfl, rfl, h2, rfl, ?_⟩
    obtain ⟨r, hr1, er⟩ := pick_lt (z := b) h0
    refine ⟨_, rfl, ?_⟩
    have q := hQ (upd H2 p (.lst [.int a2, .int (b.fdiv n), .int (c + 1)])) r (k2.put rfl fx) ⟨_, _, _, upd_same⟩ hr1
    rw [show nI r = V.int (b.fmod n) from congrArg V.int er.symm] at q
    exact q
  · refine ⟨false, bF hb, ?_⟩
    refine ⟨_, rfl, p, _, _, _, rfl, rfl, SqL.of h2, rfl, _, _, rfl, rfl, nz, _, _, rfl, rfl, ⟨by decide, by decide⟩, _, rfl, _, _, rfl, rfl, nn, ?_⟩
    obtain ⟨r, hr1, er⟩ := pick_lt (z := (a2.fmod 1000000289).fdiv 16) h0
    have q := hQ H2 r k2 ⟨_, _, _, h2⟩ hr1
    rw [show nI r = V.int (((a2.fmod 1000000289).fdiv 16).fmod n) from congrArg V.int er.symm] at q
    exact q
end
end J

set_option Elab.async false
set_option linter.all false
set_option maxRecDepth 100000
set_option maxHeartbeats 8000000
/-! JP: the law's wood, grove, gaps, between_two, limb. -/
namespace J
open PySem PySem.Spec PyProof.Rows L2
theorem PurseAt.off {H : Hp} {p D : Addr} {zs ys : List V} (h : PurseAt H p) (n : p ≠ D) : PurseAt (upd H D (.lst ys)) p := by
  obtain ⟨a, b, c, h⟩ := h
  exact ⟨a, b, c, by rw [upd_ne n]; exact h⟩
theorem PurseAt.ne {H : Hp} {p D : Addr} (h : PurseAt H p) (n : H D = none) : p ≠ D := by
  obtain ⟨a, b, c, h⟩ := h
  exact ne_of_none h n
section
variable {P : Program} {w : World} {K : PySem.W.Frag} {mg : Str → Option Value} {base : Heap} {f : Addr} {fd : FuncData}
/-- a comprehension over range(n) that draws -/
theorem lcP {n : Nat} {g : TG} {tt : TT} {te : TE} {vs : List Nat} {σ : L2.St} {H1 : Hp} {D p : Addr} {Qd : Hp → Prop} {J : It} {G : Hp → Prop} {Y : Nat → Hp → V → Hp → Prop} (w : Walk J n G Y) {β : Type} (R : Nat → β → V → Hp → Prop)
    (hn : n ≤ 1000) (hD : H1 D = none) (hp : PurseAt H1 p) (hG : ∀ H, Kp (fun a => a = p) H1 H → G H)
    (RD : ∀ a b v H H', Kt H H' → R a b v H → R a b v H')
    (hs : ∀ i x H H' (QT : V → Hp → Prop), i < n → Kp (fun a => a = p) H1 H → PurseAt H p → Y i H x H' → (∀ b y H4, Kp (fun a => a = p) H H4 → PurseAt H4 p → R i b y H4 → QT y H4) →
      g x (wipe σ vs) H' fun σ2 H2 => wipe σ2 vs = wipe σ vs ∧ tt σ2 H2 fun b H3 => if b = true then te σ2 H3 QT else False)
    (hd : ∀ H ys (bs : List β), Kp (fun a => a = p) H1 H → PurseAt H p → H D = some (.lst ys) → bs.length = n → ys.length = n → (∀ (i : Nat) (b : β) (v : V), bs[i]? = some b → ys[i]? = some v → R i b v H) → Qd H)
    (mono : ∀ x σ H (Q Q' : L2.St → Hp → Prop), (∀ σ' H', Q σ' H' → Q' σ' H') → g x σ H Q → g x σ H Q')
    (mt : ∀ σ H (Q Q' : Bool → Hp → Prop), (∀ b H', Q b H' → Q' b H') → tt σ H Q → tt σ H Q') :
    Goes J (upd H1 D (.lst [])) Qd fun N x H2 => g x (wipe σ vs) H2 fun σ3 H3 => wipe σ3 vs = wipe σ vs ∧ tt σ3 H3 fun c H4 => if c = true then te σ3 H4 (fun y H5 => ∃ l, H5 D = some (.lst l) ∧ l.length < sizeLine ∧ N (upd H5 D (.lst (l ++ [y])))) else N H4 := by
  have npD : p ≠ D := hp.ne hD
  refine lcS w (fun a => a = p) (fun H => PurseAt H p) (fun i => some i) (fun i v H => ∃ b, R i b v H) hn hD (fun z => npD z.symm) (hp.off (zs := []) npD) (fun H zs ys e _ => e.off (zs := []) npD) (fun H k _ => hG H k) (fun a v H H' k ⟨b, r⟩ => ⟨b, RD a b v H H' (fun c o hc t => k c o hc fun _ => by
    cases o with
    | tup _ => trivial
    | frz _ _ => trivial
    | _ => exact t.elim) r⟩) (fun i x H H' QF QT hi k e _ yy q1 q2 => ?_) fun H ys k e hys pr => ?_
  · refine mono _ _ _ _ _ (fun σ' H'' h => ⟨h.1, mt _ _ _ _ (fun b H3 z => ?_) h.2⟩) (hs i x H H' QT hi k e yy fun b y H4 k4 e4 r => q2 i rfl y H4 k4 e4 ⟨b, r⟩)
    cases b with
    | true => exact z
    | false => exact z.elim
  · rw [List.filterMap_some] at pr
    obtain ⟨bs, h1, h2, h3⟩ := paired_ex pr
    rw [List.length_range] at h1 h2
    refine hd H ys bs k e hys h1 h2 fun i b v e1 e2 => h3 i i b v ?_ e1 e2
    have hi := (List.getElem?_eq_some_iff.mp e1).1
    rw [List.getElem?_eq_getElem (by rw [List.length_range]; omega), List.getElem_range]
abbrev N_lw_wood : List Str := ["_law_purse_here", "_law_most", "_law_shape", "_law_count", "_law_k"]
theorem sc_lw_wood : FnScope N_lw_wood ["_law_purse_here", "_law_most"] (defScope s_lw_wood) := C8.fnScope_by (by decide +kernel)
def spWood (K : PySem.W.Frag) : Sp := fun vs H Q _ => ∃ (p : Addr) (n : Nat), vs = [.ref p, nI n] ∧ PurseAt H p ∧ 0 < n ∧ n ≤ 6 ∧ ∀ H' y t, Kp (fun a => a = p) H H' → PurseAt H' p → TreeOk t → Dp K H' y (encB t) → Q y H'
theorem ok_lw_wood (T : Txt mg) (F : FnP K "_law_wood" s_lw_wood f fd) (g : mg "_law_wood" = some (.ref f)) (c_lw_pick : Cal P w K mg base 1 "_law_pick" spPick) : Cal P w K mg base 2 "_law_wood" (spWood K) := by
  have nd := sc_lw_wood.nd
  refine mkCal F g (F.bindsN fun _ _ _ _ _ _ us hl => match us, hl with | [_, _], _ => rfl) sc_lw_wood (fun vs H Q E ⟨_, _, h, _⟩ => by rw [h]; rfl) fun cdv A outer s H vs Q E hcd hr ⟨p, n, hv, hp, h0, h6, hQ⟩ => ⟨_, (pss_cons (ps_asg (pe_tup (pa_cons (C8.pe_c c_lw_pick hr (by decide) rfl (pa_cons (pv 0) (pa_cons pe_int pa_nil))) (pa_cons (pe_op op_add pe_int (C8.pe_c c_lw_pick hr (by decide) rfl (pa_cons (pv 0) (pa_cons (pv 1) pa_nil)))) pa_nil))) (pg_tup rfl (pgs_cons (pg_name (i := 2) nd rfl (Or.inr rfl)) (pgs_cons (pg_name (i := 3) nd rfl (Or.inl rfl)) pgs_nil))))
    (pss_one (ps_ret (pe_callTy (k_tuple (K := K)) rfl T.tuple bt_tuple (pa_cons (pe_lc (own := [("_law_k", 4)]) (g := (gName 4)) rfl nd (pi_range1 rfl T.range (pa_cons (pe_op op_sub (pv 3) pe_int) pa_nil)) (blkOk_by (N := N_lw_wood) (sc := defScope s_lw_wood) (by decide +kernel)) (fun _ _ _ _ _ => (pg_name (i := 4) nd rfl (Or.inl rfl))) (fun _ _ _ _ _ => pts_nil) (fun _ _ _ _ _ => (pe_ix (k_ixL (K := K)) (pe_lst (pa_cons (pv 4) (pa_cons pe_int (pa_cons (C8.pe_c c_lw_pick hr (by decide) rfl (pa_cons (pv 0) (pa_cons (pe_op op_add (pv 4) pe_int) pa_nil))) pa_nil)))) (pv 2) (fun _ _ => rfl)))) pa_nil))))), ?_⟩
  subst hv
  refine ⟨_, rfl, p, 3, rfl, hp, by decide, by decide, fun H1 r1 k1 hp1 hr1 => ?_⟩
  refine ⟨_, rfl, _, rfl, p, n, rfl, hp1, h0, by omega, fun H2 c k2 hp2 hc => ?_⟩
  refine ⟨_, _, rfl, rfl, by show 2 ≤ sizeLine; decide, fun q nq => ?_⟩
  have kq := Ex.one (o := .tup [nI r1, .int (1 + c)]) nq
  have k3 := (k1.trans k2).trans (kq.kp (S := fun a => a = p))
  have hp3 := hp2.ex kq
  refine ⟨q, _, rfl, SqT.of upd_same, rfl, _, _, rfl, _, _, rfl, rfl, ?_⟩
  have ej : ((1 : Int) + (c : Int) - 1).toNat = c := by omega
  refine ⟨_, rfl, _, _, rfl, rfl, _, rfl, by omega, by omega, fun D hD => ?_⟩
  rw [ej]
  refine lcP (β := Nat) walk_range (fun i u v _ => u ≤ i ∧ v = nI u) (by omega) hD hp3 (fun _ _ => trivial) (fun _ _ _ _ _ _ h => h) (fun i z H4 H' QT hi k e yy q2 => ?_) (fun H4 ys bs k e hys l1 l2 hr => ?_) (fun _ _ _ _ _ m h => m _ _ h) (fun _ _ _ _ m h => m _ _ h)
  · obtain ⟨rfl, ez⟩ := yy
    replace ez : z = nI i := ez.trans (congrArg V.int (Int.zero_add _))
    subst ez
    refine ⟨rfl, _, rfl, _, rfl, _, rfl, _, _, rfl, rfl, p, i + 1, rfl, e, by omega, by omega, fun H5 r k5 e5 hr5 => ?_⟩
    refine ⟨by show 3 ≤ sizeLine; decide, fun q5 nq5 => ?_⟩
    have ix : ∃ u, u ≤ i ∧ atI [nI i, .int 0, nI r] (r1 : Int) = some (nI u) := by
      obtain e | e | e : r1 = 0 ∨ r1 = 1 ∨ r1 = 2 := by omega
      · exact ⟨i, Nat.le_refl _, by rw [e]; exact atI_nat rfl⟩
      · exact ⟨0, Nat.zero_le _, by rw [e]; exact atI_nat rfl⟩
      · exact ⟨r, by omega, by rw [e]; exact atI_nat rfl⟩
    obtain ⟨u, hu, eu⟩ := ix
    have kq5 := Ex.one (o := .lst [nI i, .int 0, nI r]) nq5
    exact ⟨_, rfl, q5, _, _, _, rfl, rfl, SqL.of upd_same, eu, q2 u _ _ (k5.trans kq5.kp) (e5.ex kq5) ⟨hu, rfl⟩⟩
  · refine ⟨D, ys, rfl, .inl ⟨SqL.of hys, fun t nt => ?_⟩⟩
    have ey : ys = bs.map nI := List.ext_getElem? fun i => by
      rw [List.getElem?_map]
      by_cases hi : i < c
      · rw [List.getElem?_eq_getElem (l := ys) (by omega), List.getElem?_eq_getElem (l := bs) (by omega)]
        exact congrArg some (hr i _ _ (List.getElem?_eq_getElem (by omega)) (List.getElem?_eq_getElem (by omega))).2
      · rw [List.getElem?_eq_none (l := ys) (by omega), List.getElem?_eq_none (l := bs) (by omega)]
        rfl
    have kt := Ex.one (o := .tup ys) nt
    refine hQ _ (.ref t) bs ((k3.trans k).trans kt.kp) (e.ex kt) ⟨by omega, fun k u hu => ?_⟩ (B_dp (SqT.of (by rw [ey]; exact upd_same)))
    have hk := (List.getElem?_eq_some_iff.mp hu).1
    exact (hr k u _ hu (List.getElem?_eq_getElem (by omega))).1
end
end J

set_option Elab.async false
set_option linter.all false
set_option maxRecDepth 100000
set_option maxHeartbeats 8000000
/-! JQ: the law's grove, gaps, between_two, limb. -/
namespace J
open PySem PySem.Spec PyProof.Rows L2
theorem dpAll_at {K : PySem.W.Frag} {H : Hp} {α : Type} {enc : α → PyData} : ∀ {bs : List α} {ys : List V}, ys.length = bs.length → (∀ (i : Nat) (b : α) (v : V), bs[i]? = some b → ys[i]? = some v → Dp K H v (enc b)) → DpAll K H ys (bs.map enc)
  | [], [], _, _ => .nil
  | b :: bs, y :: ys, l, h => .cons (h 0 b y rfl rfl) (dpAll_at (by simpa using l) fun i c v e1 e2 => h (i + 1) c v (by simpa using e1) (by simpa using e2))
  | [], _ :: _, l, _ => by simp at l
  | _ :: _, [], l, _ => by simp at l
section
variable {P : Program} {w : World} {K : PySem.W.Frag} {mg : Str → Option Value} {base : Heap} {f : Addr} {fd : FuncData}
abbrev N_lw_grove : List Str := ["_law_purse_here", "_law_upto", "_law_most", "_law_k"]
theorem sc_lw_grove : FnScope N_lw_grove ["_law_purse_here", "_law_upto", "_law_most"] (defScope s_lw_grove) := C8.fnScope_by (by decide +kernel)
def spGrove (K : PySem.W.Frag) : Sp := fun vs H Q _ => ∃ (p : Addr), vs = [.ref p, nI 3, nI 6] ∧ PurseAt H p ∧ ∀ H' y ts, Kp (fun a => a = p) H H' → PurseAt H' p → TsOk ts → 1 ≤ ts.length → ts.length ≤ 3 → Dp K H' y (encTs ts) → Q y H'
theorem ok_lw_grove (T : Txt mg) (F : FnP K "_law_grove" s_lw_grove f fd) (g : mg "_law_grove" = some (.ref f)) (c_lw_pick : Cal P w K mg base 1 "_law_pick" spPick) (c_lw_wood : Cal P w K mg base 2 "_law_wood" (spWood K)) : Cal P w K mg base 3 "_law_grove" (spGrove K) := by
  have nd := sc_lw_grove.nd
  refine mkCal F g (F.bindsN fun _ _ _ _ _ _ us hl => match us, hl with | [_, _, _], _ => rfl) sc_lw_grove (fun vs H Q E ⟨_, h, _⟩ => by rw [h]; rfl) fun cdv A outer s H vs Q E hcd hr ⟨p, hv, hp, hQ⟩ => ⟨_, (pss_one (ps_ret (pe_callTy (k_tuple (K := K)) rfl T.tuple bt_tuple (pa_cons (pe_lc (own := [("_law_k", 3)]) (g := (gName 3)) rfl nd (pi_range1 rfl T.range (pa_cons (pe_op op_add pe_int (C8.pe_c c_lw_pick hr (by decide) rfl (pa_cons (pv 0) (pa_cons (pv 1) pa_nil)))) pa_nil)) (blkOk_by (N := N_lw_grove) (sc := defScope s_lw_grove) (by decide +kernel)) (fun _ _ _ _ _ => (pg_name (i := 3) nd rfl (Or.inl rfl))) (fun _ _ _ _ _ => pts_nil) (fun _ _ _ _ _ => (C8.pe_c c_lw_wood hr (by decide) rfl (pa_cons (pv 0) (pa_cons (pv 2) pa_nil))))) pa_nil)))), ?_⟩
  subst hv
  refine ⟨_, rfl, _, rfl, p, 3, rfl, hp, by decide, by decide, fun H1 c k1 hp1 hc => ?_⟩
  have ej : ((1 : Int) + (c : Int)).toNat = c + 1 := by omega
  refine ⟨_, _, rfl, rfl, _, rfl, by omega, by omega, fun D hD => ?_⟩
  rw [ej]
  refine lcP (β := Tree) walk_range (fun i t v H => TreeOk t ∧ Dp K H v (encB t)) (by omega) hD hp1 (fun _ _ => trivial) (fun _ _ _ _ _ k h => ⟨h.1, dp_tt k _ _ (flat_B _) h.2⟩) (fun i z H4 H' QT hi k e yy q2 => ?_) (fun H4 ys bs k e hys l1 l2 hr => ?_) (fun _ _ _ _ _ m h => m _ _ h) (fun _ _ _ _ m h => m _ _ h)
  · obtain ⟨rfl, ez⟩ := yy
    exact ⟨rfl, _, rfl, _, rfl, p, 6, rfl, e, by decide, by decide, fun H5 y t k5 e5 ht hd => q2 t y H5 k5 e5 ⟨ht, hd⟩⟩
  · refine ⟨D, ys, rfl, .inl ⟨SqL.of hys, fun t nt => ?_⟩⟩
    have kt := Ex.one (o := .tup ys) nt
    refine hQ _ (.ref t) bs ((k1.trans k).trans kt.kp) (e.ex kt) (fun t ht => ?_) (by omega) (by omega) (.tup (SqT.of upd_same) (dpAll_at (by omega) fun i b v e1 e2 => dp_ex kt _ _ (hr i b v e1 e2).2))
    obtain ⟨i, hi⟩ := List.getElem?_of_mem ht
    have hk := (List.getElem?_eq_some_iff.mp hi).1
    exact (hr i t _ hi (List.getElem?_eq_getElem (by omega))).1
/-! ### rows of numbers in plain lists -/
def RowsAt (H : Hp) (p : Addr) (rows : List (List Nat)) : Prop := ∃ vs, H p = some (.lst vs) ∧ Paired (fun (r : List Nat) (v : V) => ∃ b, v = .ref b ∧ H b = some (.lst (r.map nI))) rows vs
theorem RowsAt.ex {H H' : Hp} {p : Addr} {rows : List (List Nat)} (k : Ex H H') (h : RowsAt H p rows) : RowsAt H' p rows := by
  obtain ⟨vs, h1, h2⟩ := h
  exact ⟨vs, k _ _ h1, Paired.mapP h2 fun r v ⟨b, e1, e2⟩ => ⟨b, e1, k _ _ e2⟩⟩
theorem paired_get {α β : Type} {R : α → β → Prop} : ∀ {xs : List α} {ys : List β} {i : Nat} {x : α}, Paired R xs ys → xs[i]? = some x → ∃ y, ys[i]? = some y ∧ R x y
  | _, _, i, _, .nil, h => by simp at h
  | _, _, 0, _, .cons r _, h => by
    simp only [List.getElem?_cons_zero, Option.some.injEq] at h
    subst h
    exact ⟨_, rfl, r⟩
  | _, _, i + 1, _, .cons _ t, h => by
    obtain ⟨y, h1, h2⟩ := paired_get (i := i) t (by simpa using h)
    exact ⟨y, by simpa using h1, h2⟩
theorem paired_tog {α β : Type} {R : α → β → Prop} : ∀ {xs : List α} {ys : List β} {i : Nat} {y : β}, Paired R xs ys → ys[i]? = some y → ∃ x, xs[i]? = some x ∧ R x y
  | _, _, i, _, .nil, h => by simp at h
  | _, _, 0, _, .cons r _, h => by
    simp only [List.getElem?_cons_zero, Option.some.injEq] at h
    subst h
    exact ⟨_, rfl, r⟩
  | _, _, i + 1, _, .cons _ t, h => by
    obtain ⟨y, h1, h2⟩ := paired_tog (i := i) t (by simpa using h)
    exact ⟨y, by simpa using h1, h2⟩
def lawStep (found : List (List Nat)) (up : Nat) : List (List Nat) := List.zipWith (fun row g => row ++ [g]) found ((found.getD up []).map (· + 1)) ++ [(found.getD up []).map (· + 1) ++ [0]]
theorem lawGaps_snoc (t : Tree) (u : Nat) : lawGaps (t ++ [u]) = lawStep (lawGaps t) u := by
  unfold lawGaps
  rw [List.foldl_append]
  rfl
theorem tree_take {t : Tree} (h : TreeOk t) (i : Nat) : TreeOk (t.take i) := ⟨by rw [List.length_take]; have := h.1; omega, fun k u hu => h.2 k u (by
  rw [List.getElem?_take] at hu
  by_cases c : k < i
  · rw [if_pos c] at hu
    exact hu
  · rw [if_neg c] at hu
    cases hu)⟩
theorem gapsL_len (t : Tree) : (gapsL t).length = t.length + 1 := by
  unfold gapsL
  rw [List.length_map, List.length_range]
theorem gapsL_row {t : Tree} {x : Nat} (h : x ≤ t.length) : (gapsL t)[x]? = some ((List.range (t.length + 1)).map fun y => gap t x y) := by
  unfold gapsL
  rw [List.getElem?_map, List.getElem?_range (by omega)]
  rfl
theorem gap_row {t : Tree} {x y : Nat} (h : y ≤ t.length) : ((List.range (t.length + 1)).map fun y => gap t x y)[y]? = some (gap t x y) := by
  rw [List.getElem?_map, List.getElem?_range (by omega)]
  rfl
abbrev N_lw_gaps : List Str := ["_law_wood_here", "_law_found", "_law_up", "_law_last", "_law_gap", "_law_row"]
theorem sc_lw_gaps : FnScope N_lw_gaps ["_law_wood_here"] (defScope s_lw_gaps) := C8.fnScope_by (by decide +kernel)
def spLGaps (K : PySem.W.Frag) : Sp := fun vs H Q _ => ∃ v t, vs = [v] ∧ Dp K H v (encB t) ∧ TreeOk t ∧ ∀ H' p, Ex H H' → RowsAt H' p (gapsL t) → Q (.ref p) H'
theorem ok_lw_gaps (T : Txt mg) (F : FnP K "_law_gaps" s_lw_gaps f fd) (g : mg "_law_gaps" = some (.ref f)) : Cal P w K mg base 1 "_law_gaps" (spLGaps K) := by
  have nd := sc_lw_gaps.nd
  refine mkCal F g (F.bindsN fun _ _ _ _ _ _ us hl => match us, hl with | [_], _ => rfl) sc_lw_gaps (fun vs H Q E ⟨_, _, h, _⟩ => by rw [h]; rfl) fun cdv A outer s H vs Q E hcd hr ⟨v, t, hv, hd, ht, hQ⟩ => ⟨_, (pss_cons (ps_set (i := 1) nd rfl (Or.inl rfl) (pe_lst (pa_cons (pe_lst (pa_cons pe_int pa_nil)) pa_nil)))
    (pss_cons (ps_for PassesOwn.never rfl (kpi_tup (K := K) (pv 0)) (pg_name (i := 2) nd rfl (Or.inl rfl)) (pss_cons (ps_setLc (i := 3) (own := [("_law_gap", 4)]) (g := (gName 4)) rfl nd rfl rfl (sw_true rfl rfl rfl (by decide +kernel)) (kpi_list (K := K) (pe_ix (k_ixL (K := K)) (pv 1) (pv 2) (fun _ _ => rfl))) (blkOk_by (N := N_lw_gaps) (sc := defScope s_lw_gaps) (by decide +kernel)) (fun _ _ _ _ _ => (pg_name (i := 4) nd rfl (Or.inl rfl))) (fun _ _ _ _ _ => pts_nil) (fun _ _ _ _ _ => (pe_op op_add (pv 4) pe_int)))
    (pss_one (ps_set (i := 1) nd rfl (Or.inl rfl) (pe_op op_cat (pe_lc (own := [("_law_row", 5), ("_law_gap", 4)]) (g := (gTup K 2 (gCons (gName 5) (gCons (gName 4) gNil)))) rfl nd (pi_zip2 false false rfl T.zip (pa_cons (pv 1) (pa_cons (pv 3) pa_nil))) (blkOk_by (N := N_lw_gaps) (sc := defScope s_lw_gaps) (by decide +kernel)) (fun _ _ _ _ _ => (pg_tup rfl (pgs_cons (pg_name (i := 5) nd rfl (Or.inl rfl)) (pgs_cons (pg_name (i := 4) nd rfl (Or.inl rfl)) pgs_nil)))) (fun _ _ _ _ _ => pts_nil) (fun _ _ _ _ _ => (pe_op op_cat (pv 5) (pe_lst (pa_cons (pv 4) pa_nil))))) (pe_lst (pa_cons (pe_op op_cat (pv 3) (pe_lst (pa_cons pe_int pa_nil))) pa_nil)))))))
    (pss_one (ps_ret (pv 1))))), ?_⟩
  subst hv
  obtain ⟨a, rfl, ha⟩ := dp_B hd
  have h5 := ht.1
  have hlt : (t.map nI).length = t.length := List.length_map _
  refine ⟨by show 1 ≤ sizeLine; decide, fun p1 n1 => ⟨by show 1 ≤ sizeLine; decide, fun p2 n2 => ?_⟩⟩
  have k1 := Ex.one (o := .lst [.int 0]) n1
  have k2 := k1.new (o := .lst [.ref p1]) n2
  refine ⟨_, rfl, a, rfl, ⟨_, sqT_ex k2 ha⟩, ?_⟩
  refine for_it (walk_tup (xs := t.map nI)) (fun i σ Hx => Ex H Hx ∧ ∃ (p : Addr) (s2 s3 : Option V), σ = [some (.ref a), some (.ref p), s2, s3, none, none] ∧ RowsAt Hx p (gapsL (t.take i))) ⟨k2, p2, none, none, rfl, ?_⟩ (fun i σ Hx _ hx => sqT_ex hx.1 ha) (fun i z σ Hx H' hi hx yy => ?_) fun σ Hx hx => ?_
  · refine ⟨_, upd_same, .cons ⟨p1, rfl, (Ex.one n2) _ _ upd_same⟩ .nil⟩
  · obtain ⟨kx, p, s2, s3, rfl, hR⟩ := hx
    obtain ⟨rfl, e⟩ := yy
    obtain ⟨u, hu, rfl⟩ := nI_at e
    rw [hlt] at hi
    have hui := ht.2 i u hu
    have hti := tree_take ht i
    have lti : (t.take i).length = i := by rw [List.length_take]; omega
    have hrow := gapsL_row (t := t.take i) (x := u) (by omega)
    rw [lti] at hrow
    obtain ⟨vs, hp, hP⟩ := id hR
    obtain ⟨y, hy, b, rfl, hb⟩ := paired_get hP hrow
    let row : List Nat := (List.range (i + 1)).map fun y => gap (t.take i) u y
    have lrow : row.length = i + 1 := by show ((List.range (i + 1)).map _).length = _; rw [List.length_map, List.length_range]
    have lrow' : (row.map nI).length = i + 1 := by rw [List.length_map, lrow]
    refine ⟨_, rfl, _, rfl, p, _, _, _, rfl, rfl, SqL.of hp, atI_nat hy, b, rfl, ⟨_, SqL.of hb⟩, fun D hD => ?_⟩
    refine lcE (walk_list (xs := row.map nI)) (fun j => row[j]?) (fun c v _ => v = nI (c + 1)) (by omega) hD (fun H3 k => SqL.of (k _ _ hb)) (fun _ _ _ _ _ h => h) (fun j z H3 H' QF QT hj k hys yy q1 q2 => ?_) fun H3 ys k3 hys pr => ?_
    · obtain ⟨rfl, e3⟩ := yy
      obtain ⟨c, hc, rfl⟩ := nI_at e3
      exact ⟨rfl, _, rfl, _, _, rfl, rfl, q2 c hc _ _ Ex.refl rfl⟩
    have er : (List.range (row.map nI).length).filterMap (fun j => row[j]?) = row := by rw [List.length_map]; exact List.filterMap_getElem?_range_length row
    rw [er] at pr
    have ey : ys = (row.map (· + 1)).map nI := (paired_eq (Hh := H3) (fun c => nI (c + 1)) pr).trans (List.map_map (f := fun c => c + 1) (g := nI) (l := row)).symm
    subst ey
    -- the new rows
    have hR3 := hR.ex k3
    obtain ⟨vs3, hp3, hP3⟩ := id hR3
    have lvs : vs3.length = i + 1 := by rw [← Paired.length hP3, gapsL_len, lti]
    refine ⟨_, rfl, _, rfl, p, D, vs3, _, rfl, SqL.of hp3, SqL.of hys, fun L nL => ?_⟩
    let rows := gapsL (t.take i)
    have lrows : rows.length = i + 1 := by show (gapsL (t.take i)).length = _; rw [gapsL_len, lti]
    have lrw1 : ((row.map (· + 1)).map nI).length = i + 1 := by rw [List.length_map, List.length_map, lrow]
    refine lcE (walk_zip2 (t1 := false) (t2 := false) (xs := vs3) (ys := (row.map (· + 1)).map nI) rfl) (fun j => (List.zipWith (fun (r : List Nat) (g : Nat) => r ++ [g]) rows (row.map (· + 1)))[j]?) (fun r v Hy => ∃ b, v = .ref b ∧ b ≠ L ∧ Hy b = some (.lst (r.map nI))) (by rw [lvs, lrw1]; omega) nL (fun H4 k => ⟨SqL.of (k _ _ hp3), SqL.of (k _ _ hys)⟩) (fun r v Hy Hz kk ⟨b, e1, e2, e3⟩ => ⟨b, e1, e2, kk b _ e3 fun z => (e2 z).elim⟩) (fun j z H4 H' QF QT hj k hyL yy q1 q2 => ?_) fun H4 ys k4 hys4 pr => ?_
    · obtain ⟨Tp, y1, y2, rfl, hT, rfl, e1, e2⟩ := yy
      obtain ⟨r, hr1, b1, rfl, hb1⟩ := paired_tog hP3 e1
      obtain ⟨g1, hg1, rfl⟩ := nI_at e2
      have kT := Ex.one (o := .tup [.ref b1, nI g1]) hT
      refine ⟨Tp, _, rfl, SqT.of upd_same, rfl, _, _, rfl, _, _, rfl, rfl, ?_⟩
      refine ⟨rfl, _, rfl, _, rfl, by show 1 ≤ sizeLine; decide, fun q3 nq3 => ?_⟩
      have kq := kT.trans (Ex.one (o := .lst [nI g1]) nq3)
      have lr : r.length ≤ 6 := by
        have hm := List.mem_of_getElem? hr1
        unfold gapsL at hm
        obtain ⟨x, _, rfl⟩ := List.mem_map.mp hm
        rw [List.length_map, List.length_range, lti]
        omega
      refine ⟨b1, q3, _, _, rfl, rfl, kq _ _ (k _ _ hb1), upd_same, ?_, fun q4 nq4 => ?_⟩
      · rw [List.length_map]
        exact Nat.le_of_lt (small1000 (by show r.length + 1 ≤ _; omega))
      refine q2 (r ++ [g1]) ?_ _ _ (kq.trans (Ex.one nq4)) ⟨q4, rfl, fun z => ?_, by rw [upd_same, List.map_append]; rfl⟩
      · rw [List.getElem?_zipWith, hr1, hg1]
      · obtain ⟨yz, hyz⟩ := hyL
        have := (kq.nn nq4)
        rw [z, hyz] at this
        cases this
    have lz : (List.zipWith (fun (r : List Nat) (g : Nat) => r ++ [g]) rows (row.map (· + 1))).length = i + 1 := by rw [List.length_zipWith, List.length_map, lrow, lrows]; omega
    have er2 : (List.range (min vs3.length ((row.map (· + 1)).map nI).length)).filterMap (fun j => (List.zipWith (fun (r : List Nat) (g : Nat) => r ++ [g]) rows (row.map (· + 1)))[j]?) = List.zipWith (fun (r : List Nat) (g : Nat) => r ++ [g]) rows (row.map (· + 1)) := by
      rw [lvs, lrw1, Nat.min_self]
      have := List.filterMap_getElem?_range_length (List.zipWith (fun (r : List Nat) (g : Nat) => r ++ [g]) rows (row.map (· + 1)))
      rw [lz] at this
      exact this
    rw [er2] at pr
    have ly : ys.length = i + 1 := by rw [← Paired.length pr, lz]
    have hDl := k4 _ _ hys
    refine ⟨_, rfl, by show 1 ≤ sizeLine; decide, fun q5 nq5 => ?_⟩
    have k5 := Ex.one (o := .lst [.int 0]) nq5
    refine ⟨D, q5, _, _, rfl, rfl, k5 _ _ hDl, upd_same, ?_, fun q6 nq6 => ?_⟩
    · rw [lrw1]
      exact Nat.le_of_lt (small1000 (by show i + 1 + 1 ≤ _; omega))
    have k6 := k5.new (o := .lst ((row.map (· + 1)).map nI ++ [.int 0])) nq6
    refine ⟨by show 1 ≤ sizeLine; decide, fun q7 nq7 => ?_⟩
    have k7 := k6.new (o := .lst [.ref q6]) nq7
    refine ⟨L, q7, _, _, rfl, rfl, k7 _ _ hys4, upd_same, ?_, fun q8 nq8 => ?_⟩
    · rw [ly]
      exact Nat.le_of_lt (small1000 (by show i + 1 + 1 ≤ _; omega))
    have k8 := k7.new (o := .lst (ys ++ [.ref q6])) nq8
    refine ⟨((kx.trans k3).trans k4).trans k8, q8, _, _, rfl, ?_⟩
    have eg : gapsL (t.take (i + 1)) = lawStep (gapsL (t.take i)) u := by
      rw [← lawGaps_eq (tree_take ht (i + 1)), ← lawGaps_eq hti, List.take_add_one, hu, ← lawGaps_snoc]
      rfl
    rw [eg]
    unfold lawStep
    rw [List.getD_eq_getElem?_getD, hrow]
    refine ⟨ys ++ [.ref q6], upd_same, pairedApp (Paired.mapP pr fun r v ⟨b, e1, e2, e3⟩ => ⟨b, e1, k8 _ _ e3⟩) (.cons ⟨q6, rfl, ?_⟩ .nil)⟩
    refine ((Ex.one nq7).new nq8) _ _ ?_
    rw [upd_same, List.map_append]
    rfl
  · obtain ⟨kx, p, s2, s3, rfl, hR⟩ := hx
    rw [hlt, List.take_length] at hR
    exact ⟨_, rfl, hQ Hx p kx hR⟩
end
end J

set_option Elab.async false
set_option linter.all false
set_option maxRecDepth 100000
set_option maxHeartbeats 8000000
/-! JU: the law's between_two, limb, inside. -/
namespace J
open PySem PySem.Spec PyProof.Rows L2
section
variable {P : Program} {w : World} {K : PySem.W.Frag} {mg : Str → Option Value} {base : Heap} {f : Addr} {fd : FuncData}
theorem way_self {t : Tree} (h : TreeOk t) {x : Nat} (hx : x ≤ t.length) : way t x x = [x] := by
  have c : allTrees.all (fun t' => (List.range (t'.length + 1)).all fun a => decide (way t' a a = [a])) = true := by decide +kernel
  exact of_decide_eq_true (List.all_eq_true.mp (List.all_eq_true.mp c t (mem_allTrees h)) x (List.mem_range.mpr (by omega)))
abbrev N_lw_between_two : List Str := ["_law_rows", "_law_first", "_law_last", "_law_spot"]
theorem sc_lw_between_two : FnScope N_lw_between_two ["_law_rows", "_law_first", "_law_last"] (defScope s_lw_between_two) := C8.fnScope_by (by decide +kernel)
def spBetween : Sp := fun vs H Q _ => ∃ (p : Addr) (x y : Nat) (t : Tree), vs = [.ref p, nI x, nI y] ∧ RowsAt H p (gapsL t) ∧ TreeOk t ∧ x ≤ t.length ∧ y ≤ t.length ∧ ∀ (H' : Hp) (q : Addr) (l : List Nat), Ex H H' → H' q = some (.lst (l.map nI)) → (∀ k, k ∈ l ↔ k ∈ way t x y) → l.length ≤ 6 → Q (.ref q) H'
theorem rowsx_at {H : Hp} {p : Addr} {x y : Nat} {t : Tree} (h : RowsAt H p (gapsL t)) (hx : x ≤ t.length) : ∃ (vs : List V) (b : Addr) (row : List Nat), H p = some (.lst vs) ∧ vs[x]? = some (.ref b) ∧ H b = some (.lst (row.map nI)) ∧ ∀ y, y ≤ t.length → row[y]? = some (gap t x y) := by
  obtain ⟨vs, hp, hP⟩ := h
  obtain ⟨v, hv, b, rfl, hb⟩ := paired_get hP (gapsL_row hx)
  exact ⟨vs, b, _, hp, hv, hb, fun y hy => gap_row hy⟩
theorem ok_lw_between_two (T : Txt mg) (F : FnP K "_law_between_two" s_lw_between_two f fd) (g : mg "_law_between_two" = some (.ref f)) : Cal P w K mg base 1 "_law_between_two" spBetween := by
  have nd := sc_lw_between_two.nd
  refine mkCal F g (F.bindsN fun _ _ _ _ _ _ us hl => match us, hl with | [_, _, _], _ => rfl) sc_lw_between_two (fun vs H Q E ⟨_, _, _, _, h, _⟩ => by rw [h]; rfl) fun cdv A outer s H vs Q E hcd hr ⟨p, x, y, t, hv, hR, ht, hx, hy, hQ⟩ => ⟨_, (pss_one (ps_ret (pe_lc (own := [("_law_spot", 3)]) (g := (gName 3)) rfl nd (pi_range1 rfl T.range (pa_cons (pe_callB (k_len (K := K)) rfl T.len bt_len (pa_cons (pv 0) pa_nil)) pa_nil)) (blkOk_by (N := N_lw_between_two) (sc := defScope s_lw_between_two) (by decide +kernel)) (fun _ _ _ _ _ => (pg_name (i := 3) nd rfl (Or.inl rfl))) (fun _ _ _ _ _ => pts_one (pt_cmpR op_eq (pe_op op_add (pe_ix (k_ixL (K := K)) (pe_ix (k_ixL (K := K)) (pv 0) (pv 1) (fun _ _ => rfl)) (pv 3) (fun _ _ => rfl)) (pe_ix (k_ixL (K := K)) (pe_ix (k_ixL (K := K)) (pv 0) (pv 3) (fun _ _ => rfl)) (pv 2) (fun _ _ => rfl))) (pe_ix (k_ixL (K := K)) (pe_ix (k_ixL (K := K)) (pv 0) (pv 1) (fun _ _ => rfl)) (pv 2) (fun _ _ => rfl)) (nomark _))) (fun _ _ _ _ _ => (pv 3))))), ?_⟩
  subst hv
  have h5 := ht.1
  obtain ⟨vs, b, row, hp, hvx, hb, hrow⟩ := rowsx_at (y := 0) hR hx
  have lvs : vs.length = t.length + 1 := by
    obtain ⟨vs', hp', hP⟩ := hR
    rw [hp] at hp'
    cases hp'
    rw [← Paired.length hP, gapsL_len]
  refine ⟨_, rfl, p, _, rfl, .inl (SqL.of hp), _, rfl, by omega, by omega, fun D hD => ?_⟩
  rw [Int.toNat_natCast, lvs]
  refine lcE walk_range (fun i => if decide (gap t x i + gap t i y = gap t x y) = true then some i else none) (fun i v _ => v = nI i) (by omega) hD (fun _ _ => trivial) (fun _ _ _ _ _ h => h) (fun i z H2 H' QF QT hi k hys yy q1 q2 => ?_) fun H2 ys k hys pr => ?_
  · obtain ⟨rfl, ez⟩ := yy
    replace ez : z = nI i := ez.trans (congrArg V.int (Int.zero_add _))
    subst ez
    have hi' : i ≤ t.length := by omega
    obtain ⟨vs2, b2, row2, hp2, hv2, hb2, hrow2⟩ := rowsx_at (y := 0) (hR.ex k) hi'
    rw [k _ _ hp] at hp2
    cases hp2
    refine ⟨rfl, _, rfl, _, rfl, p, _, _, _, rfl, rfl, SqL.of (k _ _ hp), atI_nat hvx, _, rfl, b, _, _, _, rfl, rfl, SqL.of (k _ _ hb), atI_nat (at_nI (hrow i hi')), ?_⟩
    refine ⟨_, rfl, _, rfl, p, _, _, _, rfl, rfl, SqL.of (k _ _ hp), atI_nat hv2, _, rfl, b2, _, _, _, rfl, rfl, SqL.of hb2, atI_nat (at_nI (hrow2 y hy)), _, _, rfl, rfl, ?_⟩
    refine ⟨_, rfl, _, rfl, p, _, _, _, rfl, rfl, SqL.of (k _ _ hp), atI_nat hvx, _, rfl, b, _, _, _, rfl, rfl, SqL.of (k _ _ hb), atI_nat (at_nI (hrow y hy)), rfl, ?_⟩
    by_cases c : gap t x i + gap t i y = gap t x y
    · refine ⟨true, bT (congrArg V.int (by omega)), _, rfl, q2 i ?_ _ _ Ex.refl rfl⟩
      rw [if_pos (decide_eq_true c)]
    · refine ⟨false, bF (fun z => c ?_), q1 ?_ _ Ex.refl⟩
      · injection z with z
        omega
      · rw [if_neg (by rw [decide_eq_true_eq]; exact c)]
  · have ey := paired_eq (Hh := H2) nI pr
    subst ey
    refine hQ H2 D _ k hys (fun kk => ?_) (Nat.le_trans (List.length_filterMap_le _ _) (by rw [List.length_range]; omega))
    rw [List.mem_filterMap]
    constructor
    · rintro ⟨i, hi, e⟩
      by_cases c : decide (gap t x i + gap t i y = gap t x y) = true
      · rw [if_pos c] at e
        cases e
        exact ((way_ok ht hx hy).on kk (by have := List.mem_range.mp hi; omega)).mp (of_decide_eq_true c)
      · rw [if_neg c] at e
        cases e
    · intro hk
      have hl := (way_ok ht hx hy).le kk hk
      refine ⟨kk, List.mem_range.mpr (by omega), ?_⟩
      rw [if_pos (decide_eq_true (((way_ok ht hx hy).on kk hl).mpr hk))]
abbrev N_lw_limb : List Str := ["_law_wood_here", "_law_some", "_law_rows", "_law_found", "_law_last"]
theorem sc_lw_limb : FnScope N_lw_limb ["_law_wood_here", "_law_some"] (defScope s_lw_limb) := C8.fnScope_by (by decide +kernel)
def spLimb (K : PySem.W.Frag) : Sp := fun vs H Q _ => ∃ (v : V) (s : Addr) (t : Tree) (ns : List Nat), vs = [v, .ref s] ∧ Dp K H v (encB t) ∧ TreeOk t ∧ H s = some (.lst (ns.map nI)) ∧ ns ≠ [] ∧ ns.length ≤ 3 ∧ (∀ n ∈ ns, n ≤ t.length) ∧ ∀ H' y b, Ex H H' → BrOk t b → Dp K H' y (encB b) → Q y H'
theorem ok_lw_limb (T : Txt mg) (F : FnP K "_law_limb" s_lw_limb f fd) (g : mg "_law_limb" = some (.ref f)) (c_lw_gaps : Cal P w K mg base 1 "_law_gaps" (spLGaps K)) (c_lw_between_two : Cal P w K mg base 1 "_law_between_two" spBetween) : Cal P w K mg base 2 "_law_limb" (spLimb K) := by
  have nd := sc_lw_limb.nd
  refine mkCal F g (F.bindsN fun _ _ _ _ _ _ us hl => match us, hl with | [_, _], _ => rfl) sc_lw_limb (fun vs H Q E ⟨_, _, _, _, h, _⟩ => by rw [h]; rfl) fun cdv A outer s H vs Q E hcd hr ⟨v, sa, t, ns, hv, hd, ht, hs, hne, h3, hns, hQ⟩ => ⟨_, (pss_cons (ps_par (i := 2) (j := 3) rfl nd rfl rfl (by decide) rfl rfl (pa_cons (C8.pe_c c_lw_gaps hr (by decide) rfl (pa_cons (pv 0) pa_nil)) (pa_cons (pe_lst pa_nil) pa_nil)) rfl)
    (pss_cons (ps_for PassesOwn.never rfl (kpi_list (K := K) (pv 1)) (pg_name (i := 4) nd rfl (Or.inl rfl)) (pss_one (ps_set (i := 3) nd rfl (Or.inl rfl) (pe_op op_cat (pv 3) (C8.pe_c c_lw_between_two hr (by decide) rfl (pa_cons (pv 2) (pa_cons (pe_ix (k_ixL (K := K)) (pv 1) pe_int (fun _ _ => rfl)) (pa_cons (pv 4) pa_nil))))))))
    (pss_one (ps_ret (pe_callTy (k_tuple (K := K)) rfl T.tuple bt_tuple (pa_cons (pe_callB (cr_sortedSet rfl) rfl T.sorted bt_sorted (pa_cons (pe_callTy (k_setI (K := K) rfl) rfl T.set bt_set (pa_cons (pv 3) pa_nil)) pa_nil)) pa_nil)))))), ?_⟩
  subst hv
  obtain ⟨x, os, rfl⟩ : ∃ x os, ns = x :: os := by
    cases ns with
    | nil => exact absurd rfl hne
    | cons x os => exact ⟨x, os, rfl⟩
  have hx : x ≤ t.length := hns x List.mem_cons_self
  have hlt : ((x :: os).map nI).length = (x :: os).length := List.length_map _
  refine ⟨_, rfl, v, t, rfl, hd, ht, fun H1 p k1 hR => ⟨by show 0 ≤ sizeLine; exact Nat.zero_le _, fun q nq => ⟨_, _, rfl, ?_⟩⟩⟩
  have kq := Ex.one (o := .lst []) nq
  refine ⟨_, rfl, sa, rfl, ⟨_, SqL.of ((k1.trans kq) _ _ hs)⟩, ?_⟩
  refine for_it (walk_list (xs := (x :: os).map nI)) (fun i σ Hx => Ex (upd H1 q (.lst [])) Hx ∧ ∃ (q : Addr) (l : List Nat) (s4 : Option V), σ = [some v, some (.ref sa), some (.ref p), some (.ref q), s4] ∧ Hx q = some (.lst (l.map nI)) ∧ l.length ≤ 6 * i ∧ (∀ k, k ∈ l ↔ ∃ n ∈ (x :: os).take i, k ∈ way t x n))
    ⟨Ex.refl, q, [], none, rfl, upd_same, Nat.zero_le _, fun k => by simp⟩ (fun i σ Hx _ hx => SqL.of (hx.1 _ _ ((k1.trans kq) _ _ hs))) (fun i z σ Hx H' hi hx yy => ?_) fun σ Hx hx => ?_
  · obtain ⟨kx, q2, l, s4, rfl, hl, ll, ml⟩ := hx
    obtain ⟨rfl, e⟩ := yy
    obtain ⟨n, hn, rfl⟩ := nI_at e
    have hnl := hns n (List.mem_of_getElem? hn)
    have k0x := (k1.trans kq).trans kx
    rw [hlt] at hi
    refine ⟨_, rfl, _, rfl, _, rfl, sa, _, _, nI x, rfl, rfl, SqL.of (k0x _ _ hs), atI_nat (j := 0) rfl, _, rfl, p, x, n, t, rfl, (hR.ex kq).ex kx, ht, hx, hnl, fun H4 q4 l4 k4 h4 m4 n4 => ?_⟩
    refine ⟨q2, q4, _, _, rfl, rfl, k4 _ _ hl, h4, ?_, fun q5 nq5 => ?_⟩
    · rw [List.length_map, List.length_map]
      exact Nat.le_of_lt (small1000 (by simp only [List.length_cons] at h3 hi; omega))
    refine ⟨(kx.trans k4).new nq5, q5, l ++ l4, _, rfl, by rw [upd_same, List.map_append], by rw [List.length_append]; omega, fun k => ?_⟩
    rw [List.mem_append, ml k, m4 k, List.take_add_one, hn]
    simp only [List.mem_append, Option.toList, List.mem_singleton]
    constructor
    · rintro (⟨z, hz, q⟩ | q)
      · exact ⟨z, .inl hz, q⟩
      · exact ⟨n, .inr rfl, q⟩
    · rintro ⟨z, hz | hz, q⟩
      · exact .inl ⟨z, hz, q⟩
      · rw [hz] at q
        exact .inr q
  · obtain ⟨kx, q2, l, s4, rfl, hl, ll, ml⟩ := hx
    rw [hlt, List.take_length] at ml
    rw [hlt] at ll
    have k0x := (k1.trans kq).trans kx
    simp only [List.length_cons] at h3 ll
    refine ⟨_, rfl, false, q2, toI l, rfl, ?_, ?_, fun p2 S n n2 hS hn => ?_⟩
    · rw [toI_V]
      exact SqL.of hl
    · unfold toI
      rw [List.length_map]
      omega
    have hn6 : n ≤ 18 := by
      unfold toI at hn
      rw [List.length_map] at hn
      omega
    refine ⟨p2, S, n, rfl, upd_same, by omega, fun ms p3 s3 m3 l3 n3 => ?_⟩
    have ho : ∀ o ∈ os, o ≤ t.length := fun o h => hns o (List.mem_cons_of_mem _ h)
    have en : ms = toI (aroundF t x os) := sortedI_uniq s3 (toI_sorted (aroundF_ok ht hx ho).sorted) fun k => by
      rw [m3 k, hS k, mem_toI, mem_toI]
      constructor
      · rintro ⟨m, hm, rfl⟩
        obtain ⟨n, hn, hw⟩ := (ml m).mp hm
        refine ⟨m, (aroundF_mem ht hx ho).mpr ?_, rfl⟩
        rcases List.mem_cons.mp hn with rfl | hn
        · left
          rw [way_self ht hx] at hw
          exact List.mem_singleton.mp hw
        · exact .inr ⟨n, hn, hw⟩
      · rintro ⟨m, hm, rfl⟩
        refine ⟨m, (ml m).mpr ?_, rfl⟩
        rcases (aroundF_mem ht hx ho).mp hm with rfl | ⟨o, ho2, hw⟩
        · exact ⟨m, List.mem_cons_self, (way_ok ht hx hx).l⟩
        · exact ⟨o, List.mem_cons_of_mem _ ho2, hw⟩
    subst en
    rw [toI_V]
    refine ⟨p3, _, rfl, .inl ⟨SqL.of upd_same, fun l hl => hQ _ (.ref l) _ ((k0x.new n2).new n3 |>.new hl) (aroundF_ok ht hx ho) (B_dp (SqT.of upd_same))⟩⟩
end
end J

set_option Elab.async false
set_option linter.all false
set_option maxRecDepth 100000
set_option maxHeartbeats 8000000
/-! JV: the law's inside, each_in, piece, point, alone, some_piece, less. -/
namespace J
open PySem PySem.Spec PyProof.Rows L2
def insB (P Q : Part) : Bool := ((List.range P.length).map fun i => ((P.getD i []).map fun s => (Q.getD i []).contains s).all id).all id
theorem insB_iff : ∀ {P Q : Part}, P.length = Q.length → (insB P Q = true ↔ Ins P Q) := by
  intro P Q h
  have e : insB P Q = true ↔ ∀ i, i < P.length → ∀ s ∈ P.getD i [], s ∈ Q.getD i [] := by
    unfold insB
    simp only [List.all_eq_true, List.mem_map, List.mem_range, id, forall_exists_index, and_imp, forall_apply_eq_imp_iff₂, List.contains_iff_mem]
  rw [e]
  clear e
  induction P generalizing Q with
  | nil =>
    cases Q with
    | nil => exact ⟨fun _ => trivial, fun _ i hi => absurd hi (Nat.not_lt_zero i)⟩
    | cons => simp at h
  | cons a P ih =>
    cases Q with
    | nil => simp at h
    | cons b Q =>
      have ih := ih (Q := Q) (by simpa using h)
      refine Iff.trans (b := (∀ x ∈ a, x ∈ b) ∧ ∀ i, i < P.length → ∀ s ∈ P.getD i [], s ∈ Q.getD i []) ?_ (and_congr Iff.rfl ih)
      constructor
      · intro q
        exact ⟨fun x hx => q 0 (Nat.succ_pos _) x hx, fun i hi s hs => q (i + 1) (Nat.succ_lt_succ hi) s hs⟩
      · rintro ⟨q1, q2⟩ i hi s hs
        cases i with
        | zero => exact q1 s hs
        | succ i => exact q2 i (Nat.lt_of_succ_lt_succ hi) s hs
section
variable {P : Program} {w : World} {K : PySem.W.Frag} {mg : Str → Option Value} {base : Heap} {f : Addr} {fd : FuncData}
abbrev N_lw_inside : List Str := ["_law_low", "_law_high", "_law_k", "_law_spot"]
theorem sc_lw_inside : FnScope N_lw_inside ["_law_low", "_law_high"] (defScope s_lw_inside) := C8.fnScope_by (by decide +kernel)
def spInside (K : PySem.W.Frag) : Sp := fun vs H Q _ => ∃ (v u : V) (Pt Qt : Part), vs = [v, u] ∧ Dp K H v (encP Pt) ∧ Dp K H u (encP Qt) ∧ Pt.length = Qt.length ∧ Pt.length ≤ 4 ∧ (∀ b ∈ Pt, b.length ≤ 6) ∧ ∀ H', Ex H H' → Q (.bl (insB Pt Qt)) H'
theorem ok_lw_inside (T : Txt mg) (F : FnP K "_law_inside" s_lw_inside f fd) (g : mg "_law_inside" = some (.ref f)) : Cal P w K mg base 1 "_law_inside" (spInside K) := by
  have nd := sc_lw_inside.nd
  refine mkCal F g (F.bindsN fun _ _ _ _ _ _ us hl => match us, hl with | [_, _], _ => rfl) sc_lw_inside (fun vs H Q E ⟨_, _, _, _, h, _⟩ => by rw [h]; rfl) fun cdv A outer s H vs Q E hcd hr ⟨v, u, Pt, Qt, hv, hd, hu, hl, h4, h6, hQ⟩ => ⟨_, (pss_one (ps_ret (pe_callB (k_all (K := K) rfl) rfl T.all bt_all (pa_cons (pe_lc (own := [("_law_k", 2)]) (g := (gName 2)) rfl nd (pi_range1 rfl T.range (pa_cons (pe_callB (k_len (K := K)) rfl T.len bt_len (pa_cons (pv 0) pa_nil)) pa_nil)) (blkOk_by (N := N_lw_inside) (sc := defScope s_lw_inside) (by decide +kernel)) (fun _ _ _ _ _ => (pg_name (i := 2) nd rfl (Or.inr rfl))) (fun _ _ _ _ _ => pts_nil) (fun _ _ _ _ _ => (pe_callB (k_all (K := K) rfl) rfl T.all bt_all (pa_cons (pe_lc (own := [("_law_spot", 3)]) (g := (gName 3)) rfl nd (kpi_tup (K := K) (pe_ix (k_ixT (K := K)) (pv 0) (pv 2) (fun _ _ => rfl))) (blkOk_sc (N' := N_lw_inside) (sc' := relabel (scOf (retE ((defBody s_lw_inside).getD 0 (.Pass ⟨0, 0, 0, 0⟩)))) (envOfC "x" (defScope s_lw_inside) 0 0 .none)) rfl (by rfl) (by decide +kernel)) (fun _ _ _ _ _ => (pg_name (i := 3) nd rfl (Or.inl rfl))) (fun _ _ _ _ _ => pts_nil) (fun _ _ _ _ _ => (pe_cmpR (k_in_seq (K := K)) (pv 3) (pe_ix (k_ixT (K := K)) (pv 1) (pv 2) (fun _ _ => rfl)) (by with_unfolding_all rfl)))) pa_nil)))) pa_nil)))), ?_⟩
  subst hv
  obtain ⟨a1, xs, rfl, ha1, da1⟩ := dp_P hd
  obtain ⟨a2, ys, rfl, ha2, da2⟩ := dp_P hu
  have lx : xs.length = Pt.length := by rw [dpAll_length da1, List.length_map]
  have ly : ys.length = Qt.length := by rw [dpAll_length da2, List.length_map]
  refine ⟨_, rfl, a1, _, rfl, .inr ha1, _, rfl, by omega, by omega, fun D hD => ?_⟩
  rw [Int.toNat_natCast]
  refine lcE walk_range (fun i => some (((Pt.getD i []).map fun s => (Qt.getD i []).contains s).all id)) (fun b v _ => v = .bl b) (by omega) hD (fun _ _ => trivial) (fun _ _ _ _ _ h => h) (fun i z H2 H' QF QT hi k hys yy q1 q2 => ?_) fun H2 zs k hys pr => ?_
  · obtain ⟨rfl, ez⟩ := yy
    replace ez : z = nI i := ez.trans (congrArg V.int (Int.zero_add _))
    subst ez
    have e1 : xs[i]? = some xs[i] := List.getElem?_eq_getElem hi
    have e2 : ys[i]? = some (ys[i]'(by omega)) := List.getElem?_eq_getElem (by omega)
    obtain ⟨b1, hb1, d1⟩ := dpAll_B da1 e1
    obtain ⟨b2, hb2, d2⟩ := dpAll_B da2 e2
    obtain ⟨c1, ec1, hc1⟩ := dp_B d1
    obtain ⟨c2, ec2, hc2⟩ := dp_B d2
    rw [ec1] at e1
    rw [ec2] at e2
    have lb := h6 b1 (List.mem_of_getElem? hb1)
    have lb1 : (b1.map nI).length = b1.length := List.length_map _
    refine ⟨rfl, _, rfl, _, rfl, a1, _, _, _, rfl, rfl, sqT_ex k ha1, atI_nat e1, c1, rfl, ⟨_, sqT_ex k hc1⟩, fun D2 hD2 => ?_⟩
    refine lcE (walk_tup (xs := b1.map nI)) (fun j => (b1[j]?).map fun s => b2.contains s) (fun b v _ => v = .bl b) (by omega) hD2 (fun H k2 => sqT_ex (k.trans k2) hc1) (fun _ _ _ _ _ h => h) (fun j z H3 H' QF2 QT2 hj k3 hys2 yy q3 q4 => ?_) fun H3 ws k3 hys2 pr => ?_
    · obtain ⟨rfl, e⟩ := yy
      obtain ⟨s, hs, rfl⟩ := nI_at e
      refine ⟨rfl, _, rfl, _, rfl, _, rfl, a2, _, _, _, rfl, rfl, sqT_ex (k.trans k3) ha2, atI_nat e2, c2, _, rfl, .inr (sqT_ex (k.trans k3) hc2), rfl, flat_nI _, q4 (b2.contains s) ?_ _ _ Ex.refl ?_⟩
      · rw [hs]
        rfl
      · show V.bl (inV (nI s) (b2.map nI)) = V.bl (b2.contains s)
        rw [inV_nI]
    · have er : (List.range (b1.map nI).length).filterMap (fun j => (b1[j]?).map fun s => b2.contains s) = b1.map fun s => b2.contains s := by
        rw [lb1]
        have h := List.filterMap_getElem?_range_length (b1.map fun s => b2.contains s)
        rw [List.length_map] at h
        rw [← h]
        congr 1
        funext j
        rw [List.getElem?_map]
      rw [er] at pr
      have ey := paired_eq (Hh := H3) V.bl pr
      subst ey
      refine ⟨D2, _, rfl, SqL.of hys2, q2 _ rfl _ _ k3 ?_⟩
      rw [List.getD_eq_getElem?_getD, List.getD_eq_getElem?_getD, hb1, hb2]
      rfl
  · rw [filterMap_some] at pr
    have ey := paired_eq (Hh := H2) V.bl pr
    subst ey
    refine ⟨D, _, rfl, SqL.of hys, ?_⟩
    have q := hQ H2 k
    unfold insB at q
    rw [← lx] at q
    exact q
abbrev N_lw_each_in : List Str := ["_law_low", "_law_high", "_law_piece_here", "_law_great"]
theorem sc_lw_each_in : FnScope N_lw_each_in ["_law_low", "_law_high"] (defScope s_lw_each_in) := C8.fnScope_by (by decide +kernel)
def spEach (K : PySem.W.Frag) : Sp := fun vs H Q _ => ∃ (v u : V) (A B : List Part) (n : Nat), vs = [v, u] ∧ Dp K H v (.tuple (A.map encP)) ∧ Dp K H u (.tuple (B.map encP)) ∧ A.length ≤ 100 ∧ B.length ≤ 100 ∧ n ≤ 4 ∧ (∀ Pt ∈ A, Pt.length = n ∧ ∀ b ∈ Pt, b.length ≤ 6) ∧ (∀ Pt ∈ B, Pt.length = n) ∧ (∀ Pt ∈ A, ∃ Qt ∈ B, Ins Pt Qt) ∧ ∀ H', Ex H H' → Q (.bl true) H'
theorem ok_lw_each_in (T : Txt mg) (F : FnP K "_law_each_in" s_lw_each_in f fd) (g : mg "_law_each_in" = some (.ref f)) (c_lw_inside : Cal P w K mg base 1 "_law_inside" (spInside K)) : Cal P w K mg base 2 "_law_each_in" (spEach K) := by
  have nd := sc_lw_each_in.nd
  refine mkCal F g (F.bindsN fun _ _ _ _ _ _ us hl => match us, hl with | [_, _], _ => rfl) sc_lw_each_in (fun vs H Q E ⟨_, _, _, _, _, h, _⟩ => by rw [h]; rfl) fun cdv A outer s H vs Q E hcd hr ⟨v, u, Af, Bf, n, hv, hd, hu, lA, lB, hn, hA, hB, hin, hQ⟩ => ⟨_, (pss_one (ps_ret (pe_callB (k_all (K := K) rfl) rfl T.all bt_all (pa_cons (pe_lc (own := [("_law_piece_here", 2)]) (g := (gName 2)) rfl nd (kpi_tup (K := K) (pv 0)) (blkOk_by (N := N_lw_each_in) (sc := defScope s_lw_each_in) (by decide +kernel)) (fun _ _ _ _ _ => (pg_name (i := 2) nd rfl (Or.inr rfl))) (fun _ _ _ _ _ => pts_nil) (fun _ _ _ _ _ => (pe_callB (k_any (K := K) rfl) rfl T.any bt_any (pa_cons (pe_lc (own := [("_law_great", 3)]) (g := (gName 3)) rfl nd (kpi_tup (K := K) (pv 1)) (blkOk_sc (N' := N_lw_each_in) (sc' := relabel (scOf (retE ((defBody s_lw_each_in).getD 0 (.Pass ⟨0, 0, 0, 0⟩)))) (envOfC "x" (defScope s_lw_each_in) 0 0 .none)) rfl (by rfl) (by decide +kernel)) (fun _ _ _ _ _ => (pg_name (i := 3) nd rfl (Or.inl rfl))) (fun _ _ _ _ _ => pts_nil) (fun _ _ _ _ _ => (C8.pe_c c_lw_inside hr (by decide) rfl (pa_cons (pv 2) (pa_cons (pv 3) pa_nil))))) pa_nil)))) pa_nil)))), ?_⟩
  subst hv
  obtain ⟨a1, xs, rfl, ha1, da1⟩ := dp_T hd
  obtain ⟨a2, ys, rfl, ha2, da2⟩ := dp_T hu
  have lx : xs.length = Af.length := by rw [dpAll_length da1, List.length_map]
  have ly : ys.length = Bf.length := by rw [dpAll_length da2, List.length_map]
  refine ⟨_, rfl, a1, rfl, ⟨_, ha1⟩, fun D hD => ?_⟩
  refine lcE (walk_tup (xs := xs)) (fun i => Af[i]?) (fun _ v _ => v = .bl true) (by omega) hD (fun H k => sqT_ex k ha1) (fun _ _ _ _ _ h => h) (fun i z H2 H' QF QT hi k hys yy q1 q2 => ?_) fun H2 zs k hys pr => ?_
  · obtain ⟨rfl, e⟩ := yy
    obtain ⟨Pt, hPt, dP⟩ := dpAll_P da1 e
    have mA := List.mem_of_getElem? hPt
    obtain ⟨Qt, mB, hi⟩ := hin Pt mA
    refine ⟨rfl, _, rfl, a2, rfl, ⟨_, sqT_ex k ha2⟩, fun D2 hD2 => ?_⟩
    refine lcE (walk_tup (xs := ys)) (fun j => (Bf[j]?).map fun Qt => insB Pt Qt) (fun b v _ => v = .bl b) (by omega) hD2 (fun H k2 => sqT_ex (k.trans k2) ha2) (fun _ _ _ _ _ h => h) (fun j z2 H3 H' QF2 QT2 hj k3 hys2 yy q3 q4 => ?_) fun H3 ws k3 hys2 pr => ?_
    · obtain ⟨rfl, e2⟩ := yy
      obtain ⟨Q2, hQ2, dQ⟩ := dpAll_P da2 e2
      refine ⟨rfl, _, rfl, _, rfl, _, _, Pt, Q2, rfl, dp_ex (k.trans k3) _ _ dP, dp_ex (k.trans k3) _ _ dQ, by rw [(hA Pt mA).1, hB Q2 (List.mem_of_getElem? hQ2)], by rw [(hA Pt mA).1]; exact hn, (hA Pt mA).2, fun H4 k4 => q4 (insB Pt Q2) ?_ _ _ k4 rfl⟩
      rw [hQ2]
      rfl
    · have er : (List.range ys.length).filterMap (fun j => (Bf[j]?).map fun Qt => insB Pt Qt) = Bf.map fun Qt => insB Pt Qt := by
        rw [ly]
        have h := List.filterMap_getElem?_range_length (Bf.map fun Qt => insB Pt Qt)
        rw [List.length_map] at h
        rw [← h]
        congr 1
        funext j
        rw [List.getElem?_map]
      rw [er] at pr
      have ey := paired_eq (Hh := H3) V.bl pr
      subst ey
      have ea : (Bf.map fun Qt => insB Pt Qt).any id = true := by
        rw [List.any_eq_true]
        exact ⟨true, List.mem_map.mpr ⟨Qt, mB, (insB_iff (by rw [(hA Pt mA).1, hB Qt mB])).mpr hi⟩, rfl⟩
      exact ⟨D2, _, rfl, SqL.of hys2, q2 Pt hPt _ _ k3 (congrArg V.bl ea)⟩
  · refine ⟨D, _, rfl, SqL.of (by rw [← paired_all_true (Hh := H2) pr]; exact hys), ?_⟩
    rw [all_rep]
    exact hQ H2 k
end
end J

set_option Elab.async false
set_option linter.all false
set_option maxRecDepth 100000
set_option maxHeartbeats 8000000
/-! JW: the law's point, alone, piece, some_piece. -/
namespace J
open PySem PySem.Spec PyProof.Rows L2
theorem POk.snoc : ∀ {T : List Tree} {P : Part} {t : Tree} {b : List Nat}, POk T P → BrOk t b → POk (T ++ [t]) (P ++ [b])
  | [], [], _, _, _, h => ⟨h, trivial⟩
  | _ :: _, _ :: _, _, _, h, h' => ⟨h.1, POk.snoc h.2 h'⟩
  | [], _ :: _, _, _, h, _ => h.elim
  | _ :: _, [], _, _, h, _ => h.elim
theorem one_ok {t : Tree} {n : Nat} (ht : TreeOk t) (hn : n ≤ t.length) : BrOk t [n] :=
  ⟨by simp, by simp, fun x hx => by rw [List.mem_singleton.mp hx]; exact hn, fun x hx y hy m hm => by
    rw [List.mem_singleton.mp hx, List.mem_singleton.mp hy, way_self ht hn] at hm
    exact hm⟩
theorem alone_ok : ∀ {T : List Tree} {ns : List Nat}, TsOk T → ns.length = T.length → (∀ (i : Nat) (t : Tree) (n : Nat), T[i]? = some t → ns[i]? = some n → n ≤ t.length) → POk T (ns.map fun n => [n])
  | [], [], _, _, _ => trivial
  | t :: T, n :: ns, hT, hl, h => ⟨one_ok (tsOk_cons hT).1 (h 0 t n rfl rfl), alone_ok (tsOk_cons hT).2 (by simpa using hl) fun i u m e1 e2 => h (i + 1) u m (by simpa using e1) (by simpa using e2)⟩
  | [], _ :: _, _, hl, _ => by simp at hl
  | _ :: _, [], _, hl, _ => by simp at hl
section
variable {P : Program} {w : World} {K : PySem.W.Frag} {mg : Str → Option Value} {base : Heap} {f : Addr} {fd : FuncData}
abbrev N_lw_point : List Str := ["_law_purse_here", "_law_grove_here", "_law_wood_here"]
theorem sc_lw_point : FnScope N_lw_point ["_law_purse_here", "_law_grove_here"] (defScope s_lw_point) := C8.fnScope_by (by decide +kernel)
def spPoint (K : PySem.W.Frag) : Sp := fun vs H Q _ => ∃ (p : Addr) (v : V) (ts : List Tree), vs = [.ref p, v] ∧ PurseAt H p ∧ Dp K H v (encTs ts) ∧ TsOk ts ∧ ts.length ≤ 4 ∧ ∀ (H' : Hp) (a : Addr) (ns : List Nat), Kp (fun a => a = p) H H' → PurseAt H' p → ns.length = ts.length → (∀ (i : Nat) (t : Tree) (n : Nat), ts[i]? = some t → ns[i]? = some n → n ≤ t.length) → SqT K H' a (ns.map nI) → Q (.ref a) H'
theorem ok_lw_point (T : Txt mg) (F : FnP K "_law_point" s_lw_point f fd) (g : mg "_law_point" = some (.ref f)) (c_lw_pick : Cal P w K mg base 1 "_law_pick" spPick) : Cal P w K mg base 2 "_law_point" (spPoint K) := by
  have nd := sc_lw_point.nd
  refine mkCal F g (F.bindsN fun _ _ _ _ _ _ us hl => match us, hl with | [_, _], _ => rfl) sc_lw_point (fun vs H Q E ⟨_, _, _, h, _⟩ => by rw [h]; rfl) fun cdv A outer s H vs Q E hcd hr ⟨p, v, ts, hv, hp, hd, hts, h4, hQ⟩ => ⟨_, (pss_one (ps_ret (pe_callTy (k_tuple (K := K)) rfl T.tuple bt_tuple (pa_cons (pe_lc (own := [("_law_wood_here", 2)]) (g := (gName 2)) rfl nd (kpi_tup (K := K) (pv 1)) (blkOk_by (N := N_lw_point) (sc := defScope s_lw_point) (by decide +kernel)) (fun _ _ _ _ _ => (pg_name (i := 2) nd rfl (Or.inl rfl))) (fun _ _ _ _ _ => pts_nil) (fun _ _ _ _ _ => (C8.pe_c c_lw_pick hr (by decide) rfl (pa_cons (pv 0) (pa_cons (pe_op op_add (pe_callB (k_len (K := K)) rfl T.len bt_len (pa_cons (pv 2) pa_nil)) pe_int) pa_nil))))) pa_nil)))), ?_⟩
  subst hv
  obtain ⟨a1, xs, rfl, ha1, da1⟩ := dp_T hd
  have lx : xs.length = ts.length := by rw [dpAll_length da1, List.length_map]
  refine ⟨_, rfl, a1, rfl, ⟨_, ha1⟩, fun D hD => ?_⟩
  refine lcP (β := Nat) (walk_tup (xs := xs)) (fun i n v _ => v = nI n ∧ ∀ t, ts[i]? = some t → n ≤ t.length) (by omega) hD hp (fun H k => sqT_kp k ha1) (fun _ _ _ _ _ _ h => h) (fun i z H4 H' QT hi k e yy q2 => ?_) (fun H4 ys bs k e hys l1 l2 hr => ?_) (fun _ _ _ _ _ m h => m _ _ h) (fun _ _ _ _ m h => m _ _ h)
  · obtain ⟨rfl, e1⟩ := yy
    obtain ⟨t, ht, d1⟩ := dpAll_B da1 e1
    obtain ⟨b1, rfl, hb1⟩ := dp_B (dp_kp k _ _ (flat_B t) d1)
    have h5 := (hts t (List.mem_of_getElem? ht)).1
    refine ⟨rfl, _, rfl, _, rfl, b1, _, rfl, .inr hb1, _, _, rfl, rfl, p, t.length + 1, ?_, e, by omega, by omega, fun H5 r k5 e5 hr5 => q2 r _ _ k5 e5 ⟨rfl, fun u hu => ?_⟩⟩
    · rw [List.length_map]
      rfl
    · rw [ht] at hu
      cases hu
      omega
  · refine ⟨D, ys, rfl, .inl ⟨SqL.of hys, fun t nt => ?_⟩⟩
    have ey : ys = bs.map nI := List.ext_getElem? fun i => by
      rw [List.getElem?_map]
      by_cases hi : i < xs.length
      · rw [List.getElem?_eq_getElem (l := ys) (by omega), List.getElem?_eq_getElem (l := bs) (by omega)]
        exact congrArg some (hr i _ _ (List.getElem?_eq_getElem (by omega)) (List.getElem?_eq_getElem (by omega))).1
      · rw [List.getElem?_eq_none (l := ys) (by omega), List.getElem?_eq_none (l := bs) (by omega)]
        rfl
    have kt := Ex.one (o := .tup ys) nt
    refine hQ _ t bs (k.trans kt.kp) (e.ex kt) (by omega) (fun i u n e1 e2 => ?_) (SqT.of (by rw [ey]; exact upd_same))
    have hk := (List.getElem?_eq_some_iff.mp e2).1
    exact (hr i n _ e2 (List.getElem?_eq_getElem (by omega))).2 u e1
abbrev N_lw_alone : List Str := ["_law_point_here", "_law_spot"]
theorem sc_lw_alone : FnScope N_lw_alone ["_law_point_here"] (defScope s_lw_alone) := C8.fnScope_by (by decide +kernel)
def spAlone (K : PySem.W.Frag) : Sp := fun vs H Q _ => ∃ (a : Addr) (ns : List Nat), vs = [.ref a] ∧ SqT K H a (ns.map nI) ∧ ns.length ≤ 4 ∧ ∀ H' y, Ex H H' → Dp K H' y (encP (ns.map fun n => [n])) → Q y H'
theorem ok_lw_alone (T : Txt mg) (F : FnP K "_law_alone" s_lw_alone f fd) (g : mg "_law_alone" = some (.ref f)) : Cal P w K mg base 1 "_law_alone" (spAlone K) := by
  have nd := sc_lw_alone.nd
  refine mkCal F g (F.bindsN fun _ _ _ _ _ _ us hl => match us, hl with | [_], _ => rfl) sc_lw_alone (fun vs H Q E ⟨_, _, h, _⟩ => by rw [h]; rfl) fun cdv A outer s H vs Q E hcd hr ⟨a, ns, hv, ha, h4, hQ⟩ => ⟨_, (pss_one (ps_ret (pe_callTy (k_tuple (K := K)) rfl T.tuple bt_tuple (pa_cons (pe_lc (own := [("_law_spot", 1)]) (g := (gName 1)) rfl nd (kpi_tup (K := K) (pv 0)) (blkOk_by (N := N_lw_alone) (sc := defScope s_lw_alone) (by decide +kernel)) (fun _ _ _ _ _ => (pg_name (i := 1) nd rfl (Or.inl rfl))) (fun _ _ _ _ _ => pts_nil) (fun _ _ _ _ _ => (pe_tup (pa_cons (pv 1) pa_nil)))) pa_nil)))), ?_⟩
  subst hv
  have ln : (ns.map nI).length = ns.length := List.length_map _
  refine ⟨_, rfl, a, rfl, ⟨_, ha⟩, fun D hD => ?_⟩
  refine lcE (walk_tup (xs := ns.map nI)) (fun i => (ns[i]?).map fun n => [n]) (fun b v Hx => Dp K Hx v (encB b)) (by omega) hD (fun H k => sqT_ex k ha) (fun Q v Hx Hy kk h => dp_kp (S := fun b => b = D) (fun b o hb fx => kk b o hb fx) _ _ (flat_B _) h) (fun i z H2 H' QF QT hi k hys yy q1 q2 => ?_) fun H2 ys k hys pr => ?_
  · obtain ⟨rfl, e⟩ := yy
    obtain ⟨n, hn, rfl⟩ := nI_at e
    refine ⟨rfl, _, rfl, by show 1 ≤ sizeLine; decide, fun q nq => q2 [n] ?_ _ _ (Ex.one nq) (B_dp (SqT.of upd_same))⟩
    rw [hn]
    rfl
  · have er : (List.range (ns.map nI).length).filterMap (fun i => (ns[i]?).map fun n => [n]) = ns.map fun n => [n] := by
      rw [ln]
      have h := List.filterMap_getElem?_range_length (ns.map fun n => [n])
      rw [List.length_map] at h
      rw [← h]
      congr 1
      funext j
      rw [List.getElem?_map]
    rw [er] at pr
    refine ⟨D, ys, rfl, .inl ⟨SqL.of hys, fun t nt => ?_⟩⟩
    have kt := Ex.one (o := .tup ys) nt
    exact hQ _ (.ref t) (k.trans kt) (.tup (SqT.of upd_same) (dpAll_ex kt _ _ (dpAll_pairedP pr)))
abbrev N_lw_piece : List Str := ["_law_purse_here", "_law_grove_here", "_law_found", "_law_wood_here", "_law_some", "_law_k"]
theorem sc_lw_piece : FnScope N_lw_piece ["_law_purse_here", "_law_grove_here"] (defScope s_lw_piece) := C8.fnScope_by (by decide +kernel)
def spPiece (K : PySem.W.Frag) : Sp := fun vs H Q _ => ∃ (p : Addr) (v : V) (ts : List Tree), vs = [.ref p, v] ∧ PurseAt H p ∧ Dp K H v (encTs ts) ∧ TsOk ts ∧ ts.length ≤ 4 ∧ ∀ H' y Pt, Kp (fun a => a = p) H H' → PurseAt H' p → POk ts Pt → Dp K H' y (encP Pt) → Q y H'
theorem ok_lw_piece (T : Txt mg) (F : FnP K "_law_piece" s_lw_piece f fd) (g : mg "_law_piece" = some (.ref f)) (c_lw_pick : Cal P w K mg base 1 "_law_pick" spPick) (c_lw_limb : Cal P w K mg base 2 "_law_limb" (spLimb K)) : Cal P w K mg base 3 "_law_piece" (spPiece K) := by
  have nd := sc_lw_piece.nd
  refine mkCal F g (F.bindsN fun _ _ _ _ _ _ us hl => match us, hl with | [_, _], _ => rfl) sc_lw_piece (fun vs H Q E ⟨_, _, _, h, _⟩ => by rw [h]; rfl) fun cdv A outer s H vs Q E hcd hr ⟨p, v, ts, hv, hp, hd, hts, h4, hQ⟩ => ⟨_, (pss_cons (ps_set (i := 2) nd rfl (Or.inl rfl) (pe_lst pa_nil))
    (pss_cons (ps_for PassesOwn.never rfl (kpi_tup (K := K) (pv 1)) (pg_name (i := 3) nd rfl (Or.inr rfl)) (pss_cons (ps_setLc (i := 4) (own := [("_law_k", 5)]) (g := (gName 5)) rfl nd rfl rfl (sw_true rfl rfl rfl (by decide +kernel)) (pi_range1 rfl T.range (pa_cons (pe_op op_add pe_int (C8.pe_c c_lw_pick hr (by decide) rfl (pa_cons (pv 0) (pa_cons pe_int pa_nil)))) pa_nil)) (blkOk_by (N := N_lw_piece) (sc := defScope s_lw_piece) (by decide +kernel)) (fun _ _ _ _ _ => (pg_name (i := 5) nd rfl (Or.inl rfl))) (fun _ _ _ _ _ => pts_nil) (fun _ _ _ _ _ => (C8.pe_c c_lw_pick hr (by decide) rfl (pa_cons (pv 0) (pa_cons (pe_op op_add (pe_callB (k_len (K := K)) rfl T.len bt_len (pa_cons (pv 3) pa_nil)) pe_int) pa_nil)))))
    (pss_one (ps_expr (pe_bm PySem.F.plainAttrs_list PySem.F.slot_list_append PySem.F.type_list_append mt_append (pv 2) (pa_cons (C8.pe_c c_lw_limb hr (by decide) rfl (pa_cons (pv 3) (pa_cons (pv 4) pa_nil))) pa_nil))))))
    (pss_one (ps_ret (pe_callTy (k_tuple (K := K)) rfl T.tuple bt_tuple (pa_cons (pv 2) pa_nil)))))), ?_⟩
  subst hv
  obtain ⟨a1, xs, rfl, ha1, da1⟩ := dp_T hd
  have lx : xs.length = ts.length := by rw [dpAll_length da1, List.length_map]
  refine ⟨by show 0 ≤ sizeLine; exact Nat.zero_le _, fun q nq => ?_⟩
  have k1 := Ex.one (o := .lst []) nq
  have hpq := hp.ne nq
  refine ⟨_, rfl, a1, rfl, ⟨_, sqT_ex k1 ha1⟩, ?_⟩
  refine for_it (walk_tup (xs := xs)) (fun i σ Hx => Kp (fun a => a = p) H Hx ∧ PurseAt Hx p ∧ ∃ (vs : List V) (Pt : Part) (s3 s4 : Option V), σ = [some (.ref p), some (.ref a1), some (.ref q), s3, s4, none] ∧ Hx q = some (.lst vs) ∧ DpAll K Hx vs (Pt.map encB) ∧ POk (ts.take i) Pt)
    ⟨k1.kp, hp.ex k1, [], [], none, none, rfl, upd_same, .nil, by rw [List.take_zero]; trivial⟩ (fun i σ Hx _ hx => sqT_kp hx.1 ha1) (fun i z σ Hx H' hi hx yy => ?_) fun σ Hx hx => ?_
  · obtain ⟨kx, ex, vs, Pt, s3, s4, rfl, hq, dq, ok⟩ := hx
    obtain ⟨rfl, e1⟩ := yy
    obtain ⟨t, ht, d1⟩ := dpAll_B da1 e1
    have htt := hts t (List.mem_of_getElem? ht)
    have h5 := htt.1
    have dz := dp_kp kx _ _ (flat_B t) d1
    refine ⟨_, rfl, p, 3, rfl, ex, by decide, by decide, fun H1 c k2 ex1 hc => ?_⟩
    have ej : ((1 : Int) + (c : Int)).toNat = c + 1 := by omega
    refine ⟨_, _, rfl, rfl, _, rfl, by omega, by omega, fun D hD => ?_⟩
    rw [ej]
    have dz1 := dp_kp k2 _ _ (flat_B t) dz
    refine lcP (β := Nat) walk_range (fun i n v _ => v = nI n ∧ n ≤ t.length) (by omega) hD ex1 (fun _ _ => trivial) (fun _ _ _ _ _ _ h => h) (fun i z4 H4 H' QT hi k e yy q2 => ?_) (fun H4 ys bs k e hys l1 l2 hr => ?_) (fun _ _ _ _ _ m h => m _ _ h) (fun _ _ _ _ m h => m _ _ h)
    · obtain ⟨rfl, _⟩ := yy
      obtain ⟨b1, rfl, hb1⟩ := dp_B (dp_kp k _ _ (flat_B t) dz1)
      refine ⟨rfl, _, rfl, _, rfl, b1, _, rfl, .inr hb1, _, _, rfl, rfl, p, t.length + 1, ?_, e, by omega, by omega, fun H5 r k5 e5 hr5 => q2 r _ _ k5 e5 ⟨rfl, by omega⟩⟩
      rw [List.length_map]
      rfl
    · have ey : ys = bs.map nI := List.ext_getElem? fun i => by
        rw [List.getElem?_map]
        by_cases hi : i < c + 1
        · rw [List.getElem?_eq_getElem (l := ys) (by omega), List.getElem?_eq_getElem (l := bs) (by omega)]
          exact congrArg some (hr i _ _ (List.getElem?_eq_getElem (by omega)) (List.getElem?_eq_getElem (by omega))).1
        · rw [List.getElem?_eq_none (l := ys) (by omega), List.getElem?_eq_none (l := bs) (by omega)]
          rfl
      subst ey
      have k24 := k2.trans k
      have hq4 := k24 q _ hq fun z => absurd z hpq.symm
      refine ⟨_, rfl, .inl ⟨rfl, _, SqL.of hq4⟩, _, rfl, _, rfl, z, D, t, bs, rfl, dp_kp k _ _ (flat_B t) dz1, htt, hys, fun z => by rw [z] at l1; simp at l1, by omega, fun n hn => ?_, fun H6 y b k6 hb hy => ?_⟩
      · obtain ⟨i, hi⟩ := List.getElem?_of_mem hn
        have hk := (List.getElem?_eq_some_iff.mp hi).1
        exact (hr i n _ hi (List.getElem?_eq_getElem (by omega))).2
      have hq6 := k6 _ _ hq4
      have lv : vs.length = Pt.length := by rw [dpAll_length dq, List.length_map]
      have lp := ok.length
      rw [List.length_take] at lp
      have k46 := k24.trans k6.kp
      refine ⟨q, vs, y, rfl, rfl, hq6, small1000 (by omega), (kx.trans k46).loc nq, (e.ex k6).off (zs := []) hpq, vs ++ [y], Pt ++ [b], _, _, rfl, upd_same, ?_, ?_⟩
      · rw [List.map_append]
        exact dpAll_append (dpAll_put hq6 (flat_Bs _) (dpAll_kp k46 _ _ (flat_Bs _) dq)) (.cons (dp_put hq6 (flat_B _) hy) .nil)
      · rw [List.take_add_one, ht]
        exact ok.snoc hb
  · obtain ⟨kx, ex, vs, Pt, s3, s4, rfl, hq, dq, ok⟩ := hx
    rw [List.take_of_length_le (by omega)] at ok
    refine ⟨_, rfl, q, vs, rfl, .inl ⟨SqL.of hq, fun t nt => ?_⟩⟩
    have kt := Ex.one (o := .tup vs) nt
    exact hQ _ (.ref t) Pt (kx.trans kt.kp) (ex.ex kt) ok (.tup (SqT.of upd_same) (dpAll_ex kt _ _ dq))
abbrev N_lw_some_piece : List Str := ["_law_purse_here", "_law_grove_here"]
theorem sc_lw_some_piece : FnScope N_lw_some_piece ["_law_purse_here", "_law_grove_here"] (defScope s_lw_some_piece) := C8.fnScope_by (by decide +kernel)
theorem ok_lw_some_piece (T : Txt mg) (F : FnP K "_law_some_piece" s_lw_some_piece f fd) (g : mg "_law_some_piece" = some (.ref f)) (c_lw_pick : Cal P w K mg base 1 "_law_pick" spPick) (c_lw_point : Cal P w K mg base 2 "_law_point" (spPoint K)) (c_lw_alone : Cal P w K mg base 1 "_law_alone" (spAlone K)) (c_lw_piece : Cal P w K mg base 3 "_law_piece" (spPiece K)) : Cal P w K mg base 4 "_law_some_piece" (spPiece K) := by
  have nd := sc_lw_some_piece.nd
  refine mkCal F g (F.bindsN fun _ _ _ _ _ _ us hl => match us, hl with | [_, _], _ => rfl) sc_lw_some_piece (fun vs H Q E ⟨_, _, _, h, _⟩ => by rw [h]; rfl) fun cdv A outer s H vs Q E hcd hr ⟨p, v, ts, hv, hp, hd, hts, h4, hQ⟩ => ⟨_, (pss_cons (ps_if (pt_cmpR op_eq (C8.pe_c c_lw_pick hr (by decide) rfl (pa_cons (pv 0) (pa_cons pe_int pa_nil))) pe_int (nomark _)) (pss_one (ps_ret (C8.pe_c c_lw_alone hr (by decide) rfl (pa_cons (C8.pe_c c_lw_point hr (by decide) rfl (pa_cons (pv 0) (pa_cons (pv 1) pa_nil))) pa_nil)))) pss_nil)
    (pss_one (ps_ret (C8.pe_c c_lw_piece hr (by decide) rfl (pa_cons (pv 0) (pa_cons (pv 1) pa_nil)))))), ?_⟩
  subst hv
  refine ⟨_, rfl, p, 2, rfl, hp, by decide, by decide, fun H1 r k1 hp1 hr1 => ?_⟩
  have d1 : Dp K H1 v (encTs ts) := dp_kp k1 _ _ (flat_P ts) hd
  refine ⟨rfl, ?_⟩
  by_cases c : r = 0
  · refine ⟨true, bT (congrArg V.int (by omega)), ?_⟩
    refine ⟨_, rfl, _, rfl, p, v, ts, rfl, hp1, d1, hts, h4, fun H2 a ns k2 hp2 l2 h2 ha => ?_⟩
    exact ⟨a, ns, rfl, ha, by omega, fun H3 y k3 hy => hQ H3 y _ ((k1.trans k2).trans k3.kp) (hp2.ex k3) (alone_ok hts l2 h2) hy⟩
  · refine ⟨false, bF (fun z => c ?_), ?_⟩
    · injection z with z
      omega
    exact ⟨_, rfl, _, rfl, p, v, ts, rfl, hp1, d1, hts, h4, fun H2 y Pt k2 hp2 ok hy => hQ H2 y Pt (k1.trans k2) hp2 ok hy⟩
end
end J

set_option Elab.async false
set_option linter.all false
set_option maxRecDepth 100000
set_option maxHeartbeats 8000000
/-! JX: the law's words. -/
namespace J
open PySem PySem.Spec PyProof.Rows L2
theorem joinL_ones : ∀ cs : List Nat, TL.joinL [] (cs.map fun c => [c]) = cs
  | [] => rfl
  | [_] => rfl
  | c :: d :: cs => by
    have ih := joinL_ones (d :: cs)
    simp only [List.map_cons, TL.joinL] at ih ⊢
    simp [ih]
theorem names_of {α : Type} : ∀ {us : List α} {ys : List V}, Paired (fun (_ : α) (v : V) => ∃ z, NameOk z ∧ v = .str z) us ys → ∃ zs : List Str, zs.length = us.length ∧ ys = zs.map V.str ∧ ∀ z ∈ zs, NameOk z
  | _, _, .nil => ⟨[], rfl, rfl, fun _ h => (nomatch h)⟩
  | _, _, .cons ⟨z, hz, e⟩ t => by
    obtain ⟨zs, h1, h2, h3⟩ := names_of t
    refine ⟨z :: zs, by rw [List.length_cons, List.length_cons, h1], by rw [e, h2]; rfl, fun x hx => ?_⟩
    rcases List.mem_cons.mp hx with rfl | hx
    · exact hz
    · exact h3 x hx
def own12 : List Str := ["put", "strike", "move", "reach", "back", "stand", "lots", "beside", "meeting", "ladder", "none", "paper"]
theorem own12_ok : ∀ z ∈ own12, NameOk z := fun z hz => by
  have h : own12.all (fun z => decide (0 < z.length) && (decide (z.length ≤ 8) && z.cps.toList.all fun c => decide (97 ≤ c) && decide (c ≤ 122))) = true := by decide +kernel
  have h := List.all_eq_true.mp h z hz
  rw [Bool.and_eq_true, Bool.and_eq_true, List.all_eq_true] at h
  refine ⟨of_decide_eq_true h.1, of_decide_eq_true h.2.1, fun c hc => ?_⟩
  have := h.2.2 c hc
  rw [Bool.and_eq_true] at this
  exact ⟨of_decide_eq_true this.1, of_decide_eq_true this.2⟩
theorem name_S {l : List Nat} (h0 : l ≠ []) (h8 : l.length ≤ 8) (h : ∀ c ∈ l, 97 ≤ c ∧ c ≤ 122) : NameOk (SX.S l) := by
  refine ⟨by rw [SX.S_len]; exact List.length_pos_iff.mpr h0, by rw [SX.S_len]; exact h8, fun c hc => h c ?_⟩
  have e : (SX.S l).cps.toList = l := rfl
  rwa [e] at hc
theorem abc : ("abcdefghijklmnopqrstuvwxyz" : Str) = SX.S ((List.range 26).map fun i => i + 97) := by decide +kernel
theorem abc_at {r : Nat} (h : r < 26) : atI ("abcdefghijklmnopqrstuvwxyz" : Str).cps.toList (r : Int) = some (r + 97) := by
  rw [abc]
  have e : (SX.S ((List.range 26).map fun i => i + 97)).cps.toList = (List.range 26).map fun i => i + 97 := rfl
  rw [e]
  refine atI_nat ?_
  rw [List.getElem?_map, List.getElem?_range h]
  rfl
section
variable {P : Program} {w : World} {K : PySem.W.Frag} {mg : Str → Option Value} {base : Heap} {f : Addr} {fd : FuncData}
abbrev N_lw_words : List Str := ["_law_purse_here", "_law_count", "_law_own", "_law_first", "_law_step", "_law_letters", "_law_stem", "_law_cut", "_law_begin", "_law_k"]
theorem sc_lw_words : FnScope N_lw_words ["_law_purse_here", "_law_count"] (defScope s_lw_words) := C8.fnScope_by (by decide +kernel)
def spWords : Sp := fun vs H Q _ => ∃ (p : Addr) (n : Nat), vs = [.ref p, nI n] ∧ PurseAt H p ∧ n ≤ 7 ∧ ∀ (H' : Hp) (a : Addr) (zs : List Str), Kp (fun a => a = p) H H' → PurseAt H' p → zs.length = n → (∀ z ∈ zs, NameOk z) → H' a = some (.lst (zs.map V.str)) → H a = none → Q (.ref a) H'
theorem kp_nn {H H1 : Hp} {p q : Addr} (h : Kp (fun a => a = p) H H1) (hp : PurseAt H1 p) (n : H1 q = none) : H q = none := by
  cases e : H q with
  | none => rfl
  | some u =>
    by_cases c : q = p
    · subst c
      obtain ⟨a, b, d, hp⟩ := hp
      rw [hp] at n
      cases n
    · rw [h q u e fun z => absurd z c] at n
      cases n
theorem ok_lw_words (T : Txt mg) (F : FnP K "_law_words" s_lw_words f fd) (g : mg "_law_words" = some (.ref f)) (c_lw_pick : Cal P w K mg base 1 "_law_pick" spPick) : Cal P w K mg base 2 "_law_words" spWords := by
  have nd := sc_lw_words.nd
  refine mkCal F g (F.bindsN fun _ _ _ _ _ _ us hl => match us, hl with | [_, _], _ => rfl) sc_lw_words (fun vs H Q E ⟨_, _, h, _⟩ => by rw [h]; rfl) fun cdv A outer s H vs Q E hcd hr ⟨p, n, hv, hp, h7, hQ⟩ => ⟨_, (pss_cons (ps_set (i := 2) nd rfl (Or.inr rfl) (pe_lst (pa_cons pe_str (pa_cons pe_str (pa_cons pe_str (pa_cons pe_str (pa_cons pe_str (pa_cons pe_str (pa_cons pe_str (pa_cons pe_str (pa_cons pe_str (pa_cons pe_str (pa_cons pe_str (pa_cons pe_str pa_nil))))))))))))))
    (pss_cons (ps_asg (pe_tup (pa_cons (C8.pe_c c_lw_pick hr (by decide) rfl (pa_cons (pv 0) (pa_cons pe_int pa_nil))) (pa_cons (pe_ix (k_ixL (K := K)) (pe_lst (pa_cons pe_int (pa_cons pe_int (pa_cons pe_int (pa_cons pe_int pa_nil))))) (C8.pe_c c_lw_pick hr (by decide) rfl (pa_cons (pv 0) (pa_cons pe_int pa_nil))) (fun _ _ => rfl)) pa_nil))) (pg_tup rfl (pgs_cons (pg_name (i := 3) nd rfl (Or.inr rfl)) (pgs_cons (pg_name (i := 4) nd rfl (Or.inr rfl)) pgs_nil))))
    (pss_cons (ps_if (PW.pt (pw_and (pt_cmpR op_eq (C8.pe_c c_lw_pick hr (by decide) rfl (pa_cons (pv 0) (pa_cons pe_int pa_nil))) pe_int (nomark _)) (pw_and1 (pt_cmpR op_lt (pv 1) pe_int (nomark _))))) (pss_one (ps_ret (pe_lc (own := [("_law_k", 9)]) (g := (gName 9)) rfl nd (pi_range1 rfl T.range (pa_cons (pv 1) pa_nil)) (blkOk_by (N := N_lw_words) (sc := defScope s_lw_words) (by decide +kernel)) (fun _ _ _ _ _ => (pg_name (i := 9) nd rfl (Or.inl rfl))) (fun _ _ _ _ _ => pts_nil) (fun _ _ _ _ _ => (pe_ix (k_ixL (K := K)) (pv 2) (pe_op op_modN (pe_op op_add (pv 3) (pe_op op_mul (pv 4) (pv 9))) pe_int) (fun _ _ => rfl)))))) pss_nil)
    (pss_cons (ps_set (i := 5) nd rfl (Or.inr rfl) pe_str)
    (pss_cons (ps_set (i := 6) nd rfl (Or.inr rfl) (pe_bm PySem.F.plainAttrs_str PySem.F.slot_str_join PySem.F.type_str_join mt_join pe_str (pa_cons (pe_lc (own := [("_law_k", 9)]) (g := (gName 9)) rfl nd (pi_range1 rfl T.range (pa_cons (C8.pe_c c_lw_pick hr (by decide) rfl (pa_cons (pv 0) (pa_cons pe_int pa_nil))) pa_nil)) (blkOk_by (N := N_lw_words) (sc := defScope s_lw_words) (by decide +kernel)) (fun _ _ _ _ _ => (pg_name (i := 9) nd rfl (Or.inl rfl))) (fun _ _ _ _ _ => pts_nil) (fun _ _ _ _ _ => (pe_ix ix_str (pv 5) (C8.pe_c c_lw_pick hr (by decide) rfl (pa_cons (pv 0) (pa_cons pe_int pa_nil))) (fun _ _ => rfl)))) pa_nil)))
    (pss_cons (ps_asg (pe_tup (pa_cons (C8.pe_c c_lw_pick hr (by decide) rfl (pa_cons (pv 0) (pa_cons (pe_op op_add (pe_callB call_len_str rfl T.len bt_len (pa_cons (pv 6) pa_nil)) pe_int) pa_nil))) (pa_cons (C8.pe_c c_lw_pick hr (by decide) rfl (pa_cons (pv 0) (pa_cons pe_int pa_nil))) pa_nil))) (pg_tup rfl (pgs_cons (pg_name (i := 7) nd rfl (Or.inr rfl)) (pgs_cons (pg_name (i := 8) nd rfl (Or.inr rfl)) pgs_nil))))
    (pss_one (ps_ret (pe_lc (own := [("_law_k", 9)]) (g := (gName 9)) rfl nd (pi_range1 rfl T.range (pa_cons (pv 1) pa_nil)) (blkOk_by (N := N_lw_words) (sc := defScope s_lw_words) (by decide +kernel)) (fun _ _ _ _ _ => (pg_name (i := 9) nd rfl (Or.inl rfl))) (fun _ _ _ _ _ => pts_nil) (fun _ _ _ _ _ => (pe_op op_add_str (pe_op op_add_str (pe_slice C8.sl_txt (pv 6) po_none (po_some (pv 7))) (pe_ix ix_str (pv 5) (pe_op op_modN (pe_op op_add (pv 8) (pe_op op_mul (pv 4) (pv 9))) pe_int) (fun _ _ => rfl))) (pe_slice C8.sl_txt (pv 6) (po_some (pv 7)) po_none)))))))))))), ?_⟩
  subst hv
  refine ⟨by show 12 ≤ sizeLine; decide, fun o no => ?_⟩
  have k0 := Ex.one (o := .lst (own12.map V.str)) no
  have ho : upd H o (.lst (own12.map V.str)) o = some (.lst (own12.map V.str)) := upd_same
  have hpo := hp.ne no
  refine ⟨_, rfl, p, 12, rfl, hp.ex k0, by decide, by decide, fun H1 r1 k1 hp1 hr1 => ?_⟩
  refine ⟨by show 4 ≤ sizeLine; decide, fun l4 nl4 => ?_⟩
  have kl := Ex.one (o := .lst [.int 1, .int 5, .int 7, .int 11]) nl4
  refine ⟨_, rfl, p, 4, rfl, hp1.ex kl, by decide, by decide, fun H2 r2 k2 hp2 hr2 => ?_⟩
  have hl2 := k2 l4 _ (upd_same (H := H1) (o := .lst [.int 1, .int 5, .int 7, .int 11])) fun z => absurd z (hp1.ne nl4).symm
  have st : ∃ st : Int, atI [V.int 1, .int 5, .int 7, .int 11] (r2 : Int) = some (.int st) := by
    obtain e | e | e | e : r2 = 0 ∨ r2 = 1 ∨ r2 = 2 ∨ r2 = 3 := by omega
    · exact ⟨1, by rw [e]; exact atI_nat rfl⟩
    · exact ⟨5, by rw [e]; exact atI_nat rfl⟩
    · exact ⟨7, by rw [e]; exact atI_nat rfl⟩
    · exact ⟨11, by rw [e]; exact atI_nat rfl⟩
  obtain ⟨st, hst⟩ := st
  refine ⟨l4, _, _, _, rfl, rfl, SqL.of hl2, hst, by show 2 ≤ sizeLine; decide, fun q nq => ?_⟩
  have kq := Ex.one (o := .tup [nI r1, .int st]) nq
  refine ⟨q, _, rfl, SqT.of upd_same, rfl, _, _, rfl, _, _, rfl, rfl, ?_⟩
  have kpA : Kp (fun a => a = p) (upd H o (.lst (own12.map V.str))) (upd H2 q (.tup [nI r1, .int st])) := ((k1.trans (kl.kp (S := fun a => a = p))).trans k2).trans kq.kp
  refine ⟨_, rfl, p, 4, rfl, hp2.ex kq, by decide, by decide, fun H3 r3 k3 hp3 hr3 => ?_⟩
  have kpB := kpA.trans k3
  have ho3 := kpB o _ ho fun z => absurd z hpo.symm
  refine ⟨rfl, ?_⟩
  have k0B : Kp (fun a => a = p) H H3 := k0.kp.trans kpB
  have fin : ∀ (H4 H5 : Hp) (D : Addr) (ys : List V), Kp (fun a => a = p) H3 H4 → PurseAt H4 p → H4 D = none → Ex H4 H5 → H5 D = some (.lst ys) → Paired (fun (a : Nat) (v : V) => ∃ z, NameOk z ∧ v = .str z) ((List.range n).filterMap some) ys → Q (.ref D) H5 := fun H4 H5 D ys k4 e4 hD k5 hys pr => by
    rw [List.filterMap_some] at pr
    obtain ⟨zs, l1, rfl, h1⟩ := names_of pr
    rw [List.length_range] at l1
    exact hQ H5 D zs ((k0B.trans k4).trans k5.kp) (e4.ex k5) l1 h1 hys (kp_nn (k0B.trans k4) e4 hD)
  have late : ∀ R : Prop, (r3 = 1 → R) → (r3 ≠ 1 → R) → R := fun R h1 h2 => by
    by_cases c : r3 = 1
    · exact h1 c
    · exact h2 c
  by_cases c1 : r3 = 1
  · refine ⟨true, bT (congrArg V.int (by omega)), _, rfl, _, _, rfl, rfl, true, bT (by omega), ?_⟩
    refine ⟨_, rfl, _, rfl, by omega, by omega, fun D hD => ?_⟩
    rw [Int.toNat_natCast]
    refine lcE walk_range (fun i => some i) (fun i v _ => ∃ z, NameOk z ∧ v = .str z) (by omega) hD (fun _ _ => trivial) (fun _ _ _ _ _ h => h) (fun i z H4 H' QF QT hi k hys yy q1 q2 => ?_) fun H4 ys k hys pr => ?_
    · obtain ⟨rfl, ez⟩ := yy
      replace ez : z = nI i := ez.trans (congrArg V.int (Int.zero_add _))
      subst ez
      obtain ⟨r, hr, er⟩ := pick_lt (z := (r1 : Int) + st * (i : Int)) (n := 12) (by decide)
      have er' : ((r1 : Int) + st * (i : Int)).fmod 12 = (r : Int) := er
      obtain ⟨zz, hzz⟩ : ∃ zz, own12[r]? = some zz := ⟨own12[r]'hr, List.getElem?_eq_getElem hr⟩
      have e : atI (own12.map V.str) (((r1 : Int) + st * (i : Int)).fmod 12) = some (V.str zz) := by
        rw [er']
        refine atI_nat ?_
        rw [List.getElem?_map, hzz]
        rfl
      refine ⟨rfl, _, rfl, _, rfl, _, rfl, _, rfl, _, _, rfl, rfl, .inr ⟨by omega, by omega⟩, _, _, rfl, rfl, _, _, rfl, rfl, (by show (12 : Int) ≠ 0; decide), o, _, _, _, rfl, rfl, SqL.of (k _ _ ho3), e, q2 i rfl _ _ Ex.refl ⟨zz, own12_ok zz (List.mem_of_getElem? hzz), rfl⟩⟩
    · exact fin H3 H4 D ys Kp.refl hp3 hD k hys pr
  · refine ⟨false, bF (fun z => c1 ?_), ?_⟩
    · injection z with z
      omega
    refine ⟨rfl, ?_⟩
    refine ⟨_, rfl, p, 8, rfl, hp3, by decide, by decide, fun H4 r4 k4 hp4 hr4 => ?_⟩
    refine ⟨_, rfl, by omega, by omega, fun D hD => ?_⟩
    rw [Int.toNat_natCast]
    refine lcP (β := Nat) walk_range (fun i c v _ => v = .str (SX.S [c]) ∧ 97 ≤ c ∧ c ≤ 122) (by omega) hD hp4 (fun _ _ => trivial) (fun _ _ _ _ _ _ h => h) (fun i z H5 H' QT hi k e yy q2 => ?_) (fun H5 ys cs k hp5 hys l1 l2 hr => ?_) (fun _ _ _ _ _ m h => m _ _ h) (fun _ _ _ _ m h => m _ _ h)
    · obtain ⟨rfl, _⟩ := yy
      exact ⟨rfl, _, rfl, _, rfl, p, 26, rfl, e, by decide, by decide, fun H6 r k6 e6 hr6 => ⟨_, _, _, rfl, rfl, by decide, abc_at hr6, q2 (r + 97) _ _ k6 e6 ⟨rfl, by omega, by omega⟩⟩⟩
    have ey : ys = ((cs.map fun c => [c]).map SX.S).map V.str := List.ext_getElem? fun i => by
      rw [List.getElem?_map, List.getElem?_map, List.getElem?_map]
      by_cases hi : i < r4
      · rw [List.getElem?_eq_getElem (l := ys) (by omega), List.getElem?_eq_getElem (l := cs) (by omega)]
        exact congrArg some (hr i _ _ (List.getElem?_eq_getElem (by omega)) (List.getElem?_eq_getElem (by omega))).1
      · rw [List.getElem?_eq_none (l := ys) (by omega), List.getElem?_eq_none (l := cs) (by omega)]
        rfl
    subst ey
    have low : ∀ c ∈ cs, 97 ≤ c ∧ c ≤ 122 := fun c hc => by
      obtain ⟨i, hi⟩ := List.getElem?_of_mem hc
      have hk := (List.getElem?_eq_some_iff.mp hi).1
      exact (hr i c _ hi (List.getElem?_eq_getElem (by omega))).2
    have ej : Txt.join ("" : Str) ((cs.map fun c => [c]).map SX.S) = SX.S cs := (SX.join_S [] (cs.map fun c => [c])).trans (congrArg SX.S (joinL_ones cs))
    refine ⟨"", D, _, rfl, rfl, .inl (SqL.of hys), ?_, ?_⟩
    · have e1 : ((((cs.map fun c => [c]).map SX.S).map fun z : Str => z.length).sum) = cs.length := by
        rw [SX.lens, List.map_map]
        clear l1 l2 hr low ej hys
        induction cs with
        | nil => rfl
        | cons c cs ih =>
          rw [List.map_cons, List.sum_cons, ih, List.length_cons, Nat.add_comm]
          rfl
      have e2 : (("" : Str)).length = 0 := rfl
      rw [e1, e2, Nat.mul_zero]
      omega
    rw [ej]
    have lS : (SX.S cs).length = cs.length := SX.S_len cs
    have sS : (SX.S cs).length ≤ sizeLine := by rw [lS]; exact Nat.le_of_lt (small1000 (by omega))
    refine ⟨_, rfl, _, rfl, SX.S cs, rfl, sS, _, _, rfl, rfl, p, cs.length + 1, by rw [lS]; rfl, hp5, by omega, by omega, fun H6 cut k6 hp6 hcut => ?_⟩
    refine ⟨_, rfl, p, 26, rfl, hp6, by decide, by decide, fun H7 bg k7 hp7 hbg => ?_⟩
    refine ⟨by show 2 ≤ sizeLine; decide, fun q8 nq8 => ?_⟩
    have k8 := Ex.one (o := .tup [nI cut, nI bg]) nq8
    refine ⟨q8, _, rfl, SqT.of upd_same, rfl, _, _, rfl, _, _, rfl, rfl, ?_⟩
    refine ⟨_, rfl, _, rfl, by omega, by omega, fun D8 hD8 => ?_⟩
    rw [Int.toNat_natCast]
    refine lcE walk_range (fun i => some i) (fun i v _ => ∃ z, NameOk z ∧ v = .str z) (by omega) hD8 (fun _ _ => trivial) (fun _ _ _ _ _ h => h) (fun i z H9 H' QF QT hi k9 hys9 yy q1 q2 => ?_) fun H9 ys k9 hys9 pr => ?_
    · obtain ⟨rfl, ez⟩ := yy
      replace ez : z = nI i := ez.trans (congrArg V.int (Int.zero_add _))
      subst ez
      obtain ⟨r, hr, er⟩ := pick_lt (z := (bg : Int) + st * (i : Int)) (n := 26) (by decide)
      have er' : ((bg : Int) + st * (i : Int)).fmod 26 = (r : Int) := er
      have e : atI ("abcdefghijklmnopqrstuvwxyz" : Str).cps.toList (((bg : Int) + st * (i : Int)).fmod 26) = some (r + 97) := by
        rw [er']
        exact abc_at hr
      have s1 : Txt.slice (SX.S cs) none (some (cut : Int)) = SX.S (cs.take cut) := SX.slice_to (by omega)
      have s2 : Txt.slice (SX.S cs) (some (cut : Int)) none = SX.S (cs.drop cut) := SX.slice_from (by omega)
      have z1 : (Txt.slice (SX.S cs) none (some (cut : Int))).length + (SX.S [r + 97]).length ≤ sizeLine := by
        rw [s1, SX.S_len, SX.S_len, List.length_take]
        exact Nat.le_of_lt (small1000 (by show min cut cs.length + 1 ≤ _; omega))
      have z2 : (Txt.slice (SX.S cs) none (some (cut : Int)) ++ SX.S [r + 97]).length + (Txt.slice (SX.S cs) (some (cut : Int)) none).length ≤ sizeLine := by
        rw [s1, s2, SX.S_cat, SX.S_len, SX.S_len, List.length_append, List.length_take, List.length_drop]
        exact Nat.le_of_lt (small1000 (by show min cut cs.length + 1 + (cs.length - cut) ≤ _; omega))
      refine ⟨rfl, _, rfl, _, rfl, _, rfl, SX.S cs, rfl, sS, ?_⟩
      refine ⟨_, rfl, _, rfl, _, rfl, _, rfl, _, _, rfl, rfl, .inr ⟨by omega, by omega⟩, _, _, rfl, rfl, _, _, rfl, rfl, (by show (26 : Int) ≠ 0; decide), _, _, _, rfl, rfl, by decide, e, _, _, rfl, rfl, z1, ?_⟩
      refine ⟨_, rfl, _, rfl, _, rfl, SX.S cs, rfl, sS, _, _, rfl, rfl, z2, q2 i rfl _ _ Ex.refl ⟨SX.S (cs.take cut ++ [r + 97] ++ cs.drop cut), name_S (by simp) ?_ (fun c hc => ?_), ?_⟩⟩
      · rw [List.length_append, List.length_append, List.length_take, List.length_drop, List.length_singleton]
        omega
      · rcases List.mem_append.mp hc with hc | hc
        · rcases List.mem_append.mp hc with hc | hc
          · exact low c (List.mem_of_mem_take hc)
          · rw [List.mem_singleton.mp hc]
            omega
        · exact low c (List.mem_of_mem_drop hc)
      · show V.str (Txt.slice (SX.S cs) none (some (cut : Int)) ++ SX.S [r + 97] ++ Txt.slice (SX.S cs) (some (cut : Int)) none) = _
        rw [s1, s2, SX.S_cat, SX.S_cat]
    · exact fin _ H9 D8 ys ((((k4.trans k).trans k6).trans k7).trans k8.kp) (hp7.ex k8) hD8 k9 hys9 pr
end
end J

set_option Elab.async false
set_option linter.all false
set_option maxRecDepth 100000
set_option maxHeartbeats 8000000
/-! JY: the law's less, led, start. -/
namespace J
open PySem PySem.Spec PyProof.Rows L2
def encPair (x : Str × Part) : PyData := .tuple [.str x.1, encP x.2]
def encRoll (b : Book) : PyData := .tuple (b.map encPair)
theorem flat_pair (x : Str × Part) : flatD (encPair x) = true := by
  show (true && (flatD (encP x.2) && true)) = true
  rw [flat_P]
  rfl
theorem flat_pairs : ∀ b : Book, flatDs (b.map encPair) = true
  | [] => rfl
  | x :: b => by
    show (flatD (encPair x) && flatDs (b.map encPair)) = true
    rw [flat_pair, flat_pairs b]
    rfl
theorem flat_roll (b : Book) : flatD (encRoll b) = true := flat_pairs b
theorem dpAll_pr {K : PySem.W.Frag} {H : Hp} {b : Book} {xs : List V} {i : Nat} {x : V} (h : DpAll K H xs (b.map encPair)) (e : xs[i]? = some x) : ∃ z, b[i]? = some z ∧ Dp K H x (encPair z) := by
  obtain ⟨d, hd, hx⟩ := dpAll_get' h e
  rw [List.getElem?_map] at hd
  obtain ⟨b, hb, eb⟩ := Option.map_eq_some_iff.mp hd
  exact ⟨b, hb, by rw [eb]; exact hx⟩
theorem dp_pair {K : PySem.W.Frag} {H : Hp} {v : V} {x : Str × Part} (h : Dp K H v (encPair x)) : ∃ c pv, v = .ref c ∧ SqT K H c [.str x.1, pv] ∧ Dp K H pv (encP x.2) := by
  obtain ⟨a, xs, rfl, ha, da⟩ := dp_T h
  cases da with
  | cons h1 h2 =>
    cases h1
    cases h2 with
    | cons h3 h4 =>
      cases h4
      exact ⟨a, _, rfl, ha, h3⟩
theorem pair_dp {K : PySem.W.Frag} {H : Hp} {c : Addr} {pv : V} {x : Str × Part} (h : SqT K H c [.str x.1, pv]) (d : Dp K H pv (encP x.2)) : Dp K H (.ref c) (encPair x) := .tup h (.cons (.str _) (.cons d .nil))
theorem dpAll_from {K : PySem.W.Frag} {H : Hp} {b : Book} {ys : List V} (pr : Paired (fun (x : Str × Part) (v : V) => Dp K H v (encPair x)) b ys) : DpAll K H ys (b.map encPair) := dpAll_pairedP pr
section
variable {P : Program} {w : World} {K : PySem.W.Frag} {mg : Str → Option Value} {base : Heap} {f : Addr} {fd : FuncData}
abbrev N_lw_less : List Str := ["_law_roll", "_law_word", "_law_pair"]
theorem sc_lw_less : FnScope N_lw_less ["_law_roll", "_law_word"] (defScope s_lw_less) := C8.fnScope_by (by decide +kernel)
def spLess (K : PySem.W.Frag) : Sp := fun vs H Q _ => ∃ (v : V) (z : Str) (b : Book), vs = [v, .str z] ∧ Dp K H v (encRoll b) ∧ b.length ≤ 100 ∧ ∀ H' y, Ex H H' → Dp K H' y (encRoll (b.filter fun x => decide (x.1 ≠ z))) → Q y H'
theorem ok_lw_less (T : Txt mg) (F : FnP K "_law_less" s_lw_less f fd) (g : mg "_law_less" = some (.ref f)) : Cal P w K mg base 1 "_law_less" (spLess K) := by
  have nd := sc_lw_less.nd
  refine mkCal F g (F.bindsN fun _ _ _ _ _ _ us hl => match us, hl with | [_, _], _ => rfl) sc_lw_less (fun vs H Q E ⟨_, _, _, h, _⟩ => by rw [h]; rfl) fun cdv A outer s H vs Q E hcd hr ⟨v, z, b, hv, hd, hl, hQ⟩ => ⟨_, (pss_one (ps_ret (pe_callTy (k_tuple (K := K)) rfl T.tuple bt_tuple (pa_cons (pe_lc (own := [("_law_pair", 2)]) (g := (gName 2)) rfl nd (kpi_tup (K := K) (pv 0)) (blkOk_by (N := N_lw_less) (sc := defScope s_lw_less) (by decide +kernel)) (fun _ _ _ _ _ => (pg_name (i := 2) nd rfl (Or.inl rfl))) (fun _ _ _ _ _ => pts_one (pt_cmpR op_ne (pe_ix (k_ixT (K := K)) (pv 2) pe_int (fun _ _ => rfl)) (pv 1) (nomark _))) (fun _ _ _ _ _ => (pv 2))) pa_nil)))), ?_⟩
  subst hv
  obtain ⟨a1, xs, rfl, ha1, da1⟩ := dp_T hd
  have lx : xs.length = b.length := by rw [dpAll_length da1, List.length_map]
  refine ⟨_, rfl, a1, rfl, ⟨_, ha1⟩, fun D hD => ?_⟩
  refine lcE (walk_tup (xs := xs)) (fun i => (b[i]?).bind fun x => if decide (x.1 ≠ z) = true then some x else none) (fun x v Hx => Dp K Hx v (encPair x)) (by omega) hD (fun H k => sqT_ex k ha1) (fun Q v Hx Hy kk h => dp_kp (S := fun b => b = D) (fun b o hb fx => kk b o hb fx) _ _ (flat_pair _) h) (fun i y H2 H' QF QT hi k hys yy q1 q2 => ?_) fun H2 ys k hys pr => ?_
  · obtain ⟨rfl, e⟩ := yy
    obtain ⟨x, hx, dx⟩ := dpAll_pr da1 e
    rw [hx] at q1 q2
    have dx2 := dp_ex k _ _ dx
    obtain ⟨c, pv, rfl, hc, hpv⟩ := dp_pair dx2
    refine ⟨rfl, _, rfl, c, _, _, _, rfl, rfl, hc, atI_nat (j := 0) rfl, _, rfl, rfl, ?_⟩
    by_cases e : x.1 = z
    · refine ⟨false, ?_, q1 ?_ _ Ex.refl⟩
      · rw [e]
        simp
      · simp only [Option.bind]
        rw [if_neg (by simp [e])]
    · refine ⟨true, ?_, _, rfl, q2 x ?_ _ _ Ex.refl dx2⟩
      · show V.bl (!decide (V.str x.1 = V.str z)) = V.bl true
        rw [decide_eq_false (fun q => e (V.str.inj q))]
        rfl
      · simp only [Option.bind]
        rw [if_pos (by simp [e])]
  · rw [lx, filterMap_range] at pr
    refine ⟨D, ys, rfl, .inl ⟨SqL.of hys, fun t nt => ?_⟩⟩
    have kt := Ex.one (o := .tup ys) nt
    exact hQ _ (.ref t) (k.trans kt) (.tup (SqT.of upd_same) (dpAll_ex kt _ _ (dpAll_from pr)))
abbrev N_lw_start : List Str := ["_law_purse_here", "_law_grove_here"]
theorem sc_lw_start : FnScope N_lw_start ["_law_purse_here"] (defScope s_lw_start) := C8.fnScope_by (by decide +kernel)
def spStart (K : PySem.W.Frag) : Sp := fun vs H Q _ => ∃ (p : Addr), vs = [.ref p] ∧ PurseAt H p ∧ ∀ (H' : Hp) (q a : Addr) (gv : V) (ts : List Tree) (zs : List Str) (r : Nat), Kp (fun a => a = p) H H' → PurseAt H' p → SqT K H' q [gv, .ref a, nI r] → Dp K H' gv (encTs ts) → TsOk ts → 1 ≤ ts.length → ts.length ≤ 3 →
  H' a = some (.lst (zs.map V.str)) → H a = none → 2 ≤ zs.length → zs.length ≤ 7 → (∀ z ∈ zs, NameOk z) → r ≤ 3 → Q (.ref q) H'
theorem ok_lw_start (T : Txt mg) (F : FnP K "_law_start" s_lw_start f fd) (g : mg "_law_start" = some (.ref f)) (c_lw_pick : Cal P w K mg base 1 "_law_pick" spPick) (c_lw_grove : Cal P w K mg base 3 "_law_grove" (spGrove K)) (c_lw_words : Cal P w K mg base 2 "_law_words" spWords) : Cal P w K mg base 4 "_law_start" (spStart K) := by
  have nd := sc_lw_start.nd
  refine mkCal F g (F.bindsN fun _ _ _ _ _ _ us hl => match us, hl with | [_], _ => rfl) sc_lw_start (fun vs H Q E ⟨_, h, _⟩ => by rw [h]; rfl) fun cdv A outer s H vs Q E hcd hr ⟨p, hv, hp, hQ⟩ => ⟨_, (pss_cons (ps_set (i := 1) nd rfl (Or.inl rfl) (C8.pe_c c_lw_grove hr (by decide) rfl (pa_cons (pv 0) (pa_cons pe_int (pa_cons pe_int pa_nil)))))
    (pss_one (ps_ret (pe_tup (pa_cons (pv 1) (pa_cons (C8.pe_c c_lw_words hr (by decide) rfl (pa_cons (pv 0) (pa_cons (pe_op op_add pe_int (C8.pe_c c_lw_pick hr (by decide) rfl (pa_cons (pv 0) (pa_cons pe_int pa_nil)))) pa_nil))) (pa_cons (C8.pe_c c_lw_pick hr (by decide) rfl (pa_cons (pv 0) (pa_cons pe_int pa_nil))) pa_nil))))))), ?_⟩
  subst hv
  refine ⟨_, rfl, p, rfl, hp, fun H1 gv ts k1 hp1 hts l1 l3 dg => ?_⟩
  refine ⟨_, rfl, _, rfl, _, rfl, p, 6, rfl, hp1, by decide, by decide, fun H2 c k2 hp2 hc => ?_⟩
  refine ⟨_, _, rfl, rfl, p, 2 + c, ?_, hp2, by omega, fun H3 a zs k3 hp3 lz hz ha na => ?_⟩
  · show [V.ref p, V.int (2 + (c : Int))] = [V.ref p, nI (2 + c)]
    have e : ((2 : Int) + (c : Int)) = ((2 + c : Nat) : Int) := by omega
    rw [e]
  have hpa := hp2.ne na
  refine ⟨_, rfl, p, 4, rfl, hp3, by decide, by decide, fun H4 r k4 hp4 hr => ?_⟩
  refine ⟨by show 3 ≤ sizeLine; decide, fun q nq => ?_⟩
  have kq := Ex.one (o := .tup [gv, .ref a, nI r]) nq
  have ha4 := k4 a _ ha fun z => absurd z hpa.symm
  exact hQ _ q a gv ts zs r ((((k1.trans k2).trans k3).trans k4).trans kq.kp) (hp4.ex kq) (SqT.of upd_same) (dp_kp (((k2.trans k3).trans k4).trans kq.kp) _ _ (flat_P ts) dg) hts l1 l3 (kq _ _ ha4) (kp_nn (k1.trans k2) hp2 na) (by omega) (by omega) hz (by omega)
abbrev N_lw_led : List Str := ["_law_roll", "_law_wide", "_law_act", "_law_pair"]
theorem sc_lw_led : FnScope N_lw_led ["_law_roll", "_law_wide", "_law_act"] (defScope s_lw_led) := C8.fnScope_by (by decide +kernel)
def spLed (K : PySem.W.Frag) : Sp := fun vs H Q _ => ∃ (v u : V) (r : Nat) (b : Book) (dd : Deed), vs = [v, nI r, u] ∧ Dp K H v (encRoll b) ∧ Dp K H u (encDeed dd) ∧ b.length ≤ 100 ∧ ∀ H' q y, Ex H H' → SqT K H' q [y, nI (reachAfter r dd)] → Dp K H' y (encRoll (bookAfter b dd)) → Q (.ref q) H'
theorem tl_pair {K : PySem.W.Frag} {H : Hp} {u : V} {s z : Str} {Pt : Part} (h : Dp K H u (.tuple [.str s, .str z, encP Pt])) : ∃ a pv, u = .ref a ∧ SqT K H a [.str s, .str z, pv] ∧ Dp K H pv (encP Pt) := by
  obtain ⟨a, xs, rfl, ha, da⟩ := dp_T h
  cases da with
  | cons h1 h2 =>
    cases h1
    cases h2 with
    | cons h3 h4 =>
      cases h3
      cases h4 with
      | cons h5 h6 =>
        cases h6
        exact ⟨a, _, rfl, ha, h5⟩
theorem tl_one {K : PySem.W.Frag} {H : Hp} {u : V} {s z : Str} (h : Dp K H u (.tuple [.str s, .str z])) : ∃ a, u = .ref a ∧ SqT K H a [.str s, .str z] := by
  obtain ⟨a, xs, rfl, ha, da⟩ := dp_T h
  cases da with
  | cons h1 h2 =>
    cases h1
    cases h2 with
    | cons h3 h4 =>
      cases h3
      cases h4
      exact ⟨a, rfl, ha⟩
theorem tl_int {K : PySem.W.Frag} {H : Hp} {u : V} {s : Str} {r : Nat} (h : Dp K H u (.tuple [.str s, .int (r : Int)])) : ∃ a, u = .ref a ∧ SqT K H a [.str s, nI r] := by
  obtain ⟨a, xs, rfl, ha, da⟩ := dp_T h
  cases da with
  | cons h1 h2 =>
    cases h1
    cases h2 with
    | cons h3 h4 =>
      cases h3
      cases h4
      exact ⟨a, rfl, ha⟩
theorem nwhole : ¬ (HT.sIx 3 0 (some 1) = 0 ∧ HT.sIx 3 3 none = 3) := by decide
theorem cut1_3 (x y z : V) : cutV [x, y, z] (some 1) none = [y, z] := rfl
theorem ok_lw_led (T : Txt mg) (F : FnP K "_law_led" s_lw_led f fd) (g : mg "_law_led" = some (.ref f)) (c_lw_less : Cal P w K mg base 1 "_law_less" (spLess K)) : Cal P w K mg base 2 "_law_led" (spLed K) := by
  have nd := sc_lw_led.nd
  refine mkCal F g (F.bindsN fun _ _ _ _ _ _ us hl => match us, hl with | [_, _, _], _ => rfl) sc_lw_led (fun vs H Q E ⟨_, _, _, _, _, h, _⟩ => by rw [h]; rfl) fun cdv A outer s H vs Q E hcd hr ⟨v, u, r, b, dd, hv, hd, hu, hl, hQ⟩ => ⟨_, (pss_cons (ps_if (pt_cmpR op_eq (pe_ix (k_ixT (K := K)) (pv 2) pe_int (fun _ _ => rfl)) pe_str (nomark _)) (pss_one (ps_ret (pe_tup (pa_cons (pv 0) (pa_cons (pe_ix (k_ixT (K := K)) (pv 2) pe_int (fun _ _ => rfl)) pa_nil))))) pss_nil)
    (pss_cons (ps_if (pt_cmpR op_eq (pe_ix (k_ixT (K := K)) (pv 2) pe_int (fun _ _ => rfl)) pe_str (nomark _)) (pss_one (ps_ret (pe_tup (pa_cons (pe_op (k_catA (K := K)) (pv 0) (pe_tup (pa_cons (pe_slice (k_slT (K := K)) (pv 2) (po_some pe_int) po_none) pa_nil))) (pa_cons (pv 1) pa_nil))))) pss_nil)
    (pss_cons (ps_if (pt_cmpR op_eq (pe_ix (k_ixT (K := K)) (pv 2) pe_int (fun _ _ => rfl)) pe_str (nomark _)) (pss_one (ps_ret (pe_tup (pa_cons (C8.pe_c c_lw_less hr (by decide) rfl (pa_cons (pv 0) (pa_cons (pe_ix (k_ixT (K := K)) (pv 2) pe_int (fun _ _ => rfl)) pa_nil))) (pa_cons (pv 1) pa_nil))))) pss_nil)
    (pss_one (ps_ret (pe_tup (pa_cons (pe_callTy (k_tuple (K := K)) rfl T.tuple bt_tuple (pa_cons (pe_lc (own := [("_law_pair", 3)]) (g := (gName 3)) rfl nd (kpi_tup (K := K) (pv 0)) (blkOk_by (N := N_lw_led) (sc := defScope s_lw_led) (by decide +kernel)) (fun _ _ _ _ _ => (pg_name (i := 3) nd rfl (Or.inl rfl))) (fun _ _ _ _ _ => pts_nil) (fun _ _ _ _ _ => (pe_ifExp (pt_cmpR op_eq (pe_ix (k_ixT (K := K)) (pv 3) pe_int (fun _ _ => rfl)) (pe_ix (k_ixT (K := K)) (pv 2) pe_int (fun _ _ => rfl)) (nomark _)) (pe_slice (k_slT (K := K)) (pv 2) (po_some pe_int) po_none) (pv 3)))) pa_nil)) (pa_cons (pv 1) pa_nil)))))))), ?_⟩
  subst hv
  obtain ⟨a1, xs, rfl, ha1, da1⟩ := dp_T hd
  have lx : xs.length = b.length := by rw [dpAll_length da1, List.length_map]
  cases dd with
  | reach r' =>
    obtain ⟨a, rfl, ha⟩ := tl_int hu
    refine ⟨_, rfl, a, _, _, _, rfl, rfl, ha, atI_nat (j := 0) rfl, rfl, true, by decide, ?_⟩
    refine ⟨_, rfl, _, rfl, a, _, _, _, rfl, rfl, ha, atI_nat (j := 1) rfl, by show 2 ≤ sizeLine; decide, fun q nq => ?_⟩
    exact hQ _ q _ (Ex.one nq) (SqT.of upd_same) (dp_ex (Ex.one nq) _ _ hd)
  | put z Pt =>
    obtain ⟨a, pv, rfl, ha, hpv⟩ := tl_pair hu
    refine ⟨_, rfl, a, _, _, _, rfl, rfl, ha, atI_nat (j := 0) rfl, rfl, false, by decide, ?_⟩
    refine ⟨_, rfl, a, _, _, _, rfl, rfl, ha, atI_nat (j := 0) rfl, rfl, true, by decide, ?_⟩
    refine ⟨_, rfl, _, rfl, _, rfl, a, _, rfl, ha, fun z => absurd z nwhole, fun _ p1 n1 => ?_⟩
    rw [cut1_3]
    refine ⟨by show 1 ≤ sizeLine; decide, fun p2 n2 => ?_⟩
    have k2 := (Ex.one (o := .tup [V.str z, pv]) n1).new (o := .tup [.ref p1]) n2
    have hp1 : upd (upd H p1 (.tup [V.str z, pv])) p2 (.tup [.ref p1]) p1 = some (.tup [V.str z, pv]) := (Ex.one n2) _ _ upd_same
    have dn : Dp K (upd (upd H p1 (.tup [V.str z, pv])) p2 (.tup [.ref p1])) (.ref p1) (encPair (z, Pt)) := pair_dp (SqT.of hp1) (dp_ex k2 _ _ hpv)
    refine ⟨a1, p2, xs, [.ref p1], rfl, rfl, sqT_ex k2 ha1, SqT.of upd_same, Nat.le_of_lt (small1000 (by show xs.length + 1 ≤ _; omega)), fun e => ?_, fun _ e => (nomatch e), fun _ _ p3 n3 => ?_⟩
    · refine ⟨_, rfl, by show 2 ≤ sizeLine; decide, fun q nq => ?_⟩
      have eb : b = [] := List.eq_nil_of_length_eq_zero (by rw [← lx, e]; rfl)
      subst eb
      exact hQ _ q (.ref p2) (k2.new nq) (SqT.of upd_same) (.tup (sqT_ex (Ex.one nq) (SqT.of upd_same)) (.cons (dp_ex (Ex.one nq) _ _ dn) .nil))
    · refine ⟨_, rfl, by show 2 ≤ sizeLine; decide, fun q nq => ?_⟩
      have k34 := (Ex.one (o := .tup (xs ++ [.ref p1])) n3).new (o := .tup [.ref p3, nI r]) nq
      refine hQ _ q (.ref p3) (k2.trans k34) (SqT.of upd_same) (.tup (sqT_ex (Ex.one nq) (SqT.of upd_same)) ?_)
      show DpAll K _ _ ((b ++ [(z, Pt)]).map encPair)
      rw [List.map_append]
      exact dpAll_append (dpAll_ex (k2.trans k34) _ _ da1) (.cons (dp_ex k34 _ _ dn) .nil)
  | strike z =>
    obtain ⟨a, rfl, ha⟩ := tl_one hu
    refine ⟨_, rfl, a, _, _, _, rfl, rfl, ha, atI_nat (j := 0) rfl, rfl, false, by decide, ?_⟩
    refine ⟨_, rfl, a, _, _, _, rfl, rfl, ha, atI_nat (j := 0) rfl, rfl, false, by decide, ?_⟩
    refine ⟨_, rfl, a, _, _, _, rfl, rfl, ha, atI_nat (j := 0) rfl, rfl, true, by decide, ?_⟩
    refine ⟨_, rfl, _, rfl, a, _, _, _, rfl, rfl, ha, atI_nat (j := 1) rfl, _, z, b, rfl, hd, hl, fun H1 y k1 hy => ?_⟩
    refine ⟨_, rfl, by show 2 ≤ sizeLine; decide, fun q nq => ?_⟩
    exact hQ _ q y (k1.new nq) (SqT.of upd_same) (dp_ex (Ex.one nq) _ _ hy)
  | move z Pt =>
    obtain ⟨a, pv, rfl, ha, hpv⟩ := tl_pair hu
    refine ⟨_, rfl, a, _, _, _, rfl, rfl, ha, atI_nat (j := 0) rfl, rfl, false, by decide, ?_⟩
    refine ⟨_, rfl, a, _, _, _, rfl, rfl, ha, atI_nat (j := 0) rfl, rfl, false, by decide, ?_⟩
    refine ⟨_, rfl, a, _, _, _, rfl, rfl, ha, atI_nat (j := 0) rfl, rfl, false, by decide, ?_⟩
    refine ⟨_, rfl, a1, rfl, ⟨_, ha1⟩, fun D hD => ?_⟩
    refine lcE (walk_tup (xs := xs)) (fun i => (b[i]?).map fun x => (x.1, if x.1 = z then Pt else x.2)) (fun x v Hx => Dp K Hx v (encPair x)) (by omega) hD (fun H k => sqT_ex k ha1) (fun Q v Hx Hy kk h => dp_kp (S := fun b => b = D) (fun b o hb fx => kk b o hb fx) _ _ (flat_pair _) h) (fun i y H2 H' QF QT hi k hys yy q1 q2 => ?_) fun H2 ys k hys pr => ?_
    · obtain ⟨rfl, e⟩ := yy
      obtain ⟨x, hx, dx⟩ := dpAll_pr da1 e
      rw [hx] at q2
      have dx2 := dp_ex k _ _ dx
      obtain ⟨c, pv2, rfl, hc, hpv2⟩ := dp_pair dx2
      refine ⟨rfl, _, rfl, c, _, _, _, rfl, rfl, hc, atI_nat (j := 0) rfl, _, rfl, a, _, _, _, rfl, rfl, sqT_ex k ha, atI_nat (j := 1) rfl, rfl, ?_⟩
      by_cases e : x.1 = z
      · refine ⟨true, ?_, ?_⟩
        · rw [e]
          simp
        refine ⟨_, rfl, _, rfl, a, _, rfl, sqT_ex k ha, fun z => absurd z nwhole, fun _ p1 n1 => ?_⟩
        rw [cut1_3]
        refine q2 (x.1, Pt) ?_ _ _ (Ex.one n1) (pair_dp (SqT.of (by rw [upd_same, e])) (dp_ex ((k.trans (Ex.one n1))) _ _ hpv))
        simp only [Option.map]
        rw [if_pos e]
      · refine ⟨false, ?_, _, rfl, q2 x ?_ _ _ Ex.refl dx2⟩
        · show V.bl (decide (V.str x.1 = V.str z)) = V.bl false
          rw [decide_eq_false (fun q => e (V.str.inj q))]
        · simp only [Option.map]
          rw [if_neg e]
    · have er : (List.range xs.length).filterMap (fun i => (b[i]?).map fun x => (x.1, if x.1 = z then Pt else x.2)) = b.map fun x => (x.1, if x.1 = z then Pt else x.2) := by
        rw [lx]
        have h := List.filterMap_getElem?_range_length (b.map fun x => (x.1, if x.1 = z then Pt else x.2))
        rw [List.length_map] at h
        rw [← h]
        congr 1
        funext j
        rw [List.getElem?_map]
      rw [er] at pr
      refine ⟨D, ys, rfl, .inl ⟨SqL.of hys, fun t nt => ?_⟩⟩
      have kt := Ex.one (o := .tup ys) nt
      refine ⟨_, rfl, by show 2 ≤ sizeLine; decide, fun q nq => ?_⟩
      have kq := kt.new (o := .tup [.ref t, nI r]) nq
      exact hQ _ q (.ref t) (k.trans kq) (SqT.of upd_same) (.tup (sqT_ex (Ex.one nq) (SqT.of upd_same)) (dpAll_ex kq _ _ (dpAll_from pr)))
end
end J

set_option Elab.async false
set_option linter.all false
set_option maxRecDepth 100000
set_option maxHeartbeats 8000000
/-! JZ: the law's deed. -/
namespace J
open PySem PySem.Spec PyProof.Rows L2
theorem at_str {ns : List Str} {i : Nat} {u : Str} (h : ns[i]? = some u) : (ns.map V.str)[i]? = some (V.str u) := by
  rw [List.getElem?_map, h]
  rfl
theorem str_at {ns : List Str} {i : Nat} {x : V} (h : (ns.map V.str)[i]? = some x) : ∃ u, ns[i]? = some u ∧ x = .str u := by
  rw [List.getElem?_map] at h
  obtain ⟨u, hu, e⟩ := Option.map_eq_some_iff.mp h
  exact ⟨u, hu, e.symm⟩
theorem emp_no {ns : List Str} (h : ns ≠ []) : (ns.map V.str).isEmpty = false := by
  cases ns with
  | nil => exact absurd rfl h
  | cons _ _ => rfl
theorem flat_str (ns : List Str) : (ns.map V.str).all flatV = true := by
  induction ns with
  | nil => rfl
  | cons n ns ih => rw [List.map_cons, List.all_cons, ih]; rfl
theorem inV_str (a : Str) (ns : List Str) : inV (.str a) (ns.map V.str) = ns.contains a := by
  unfold inV
  induction ns with
  | nil => rfl
  | cons n ns ih =>
    rw [List.map_cons, List.any_cons, List.contains_cons, ih]
    congr 1
    show (n == a) = (a == n)
    exact Bool.beq_comm
section
variable {P : Program} {w : World} {K : PySem.W.Frag} {mg : Str → Option Value} {base : Heap} {f : Addr} {fd : FuncData}
abbrev N_lw_deed : List Str := ["_law_purse_here", "_law_grove_here", "_law_roll", "_law_own", "_law_mode", "_law_known", "_law_fresh", "_law_piece_here", "_law_pair", "_law_word"]
theorem sc_lw_deed : FnScope N_lw_deed ["_law_purse_here", "_law_grove_here", "_law_roll", "_law_own"] (defScope s_lw_deed) := C8.fnScope_by (by decide +kernel)
def spDeed (K : PySem.W.Frag) : Sp := fun vs H Q _ => ∃ (p : Addr) (gv rv : V) (ao : Addr) (ts : List Tree) (b : Book) (zs : List Str), vs = [.ref p, gv, rv, .ref ao] ∧ PurseAt H p ∧ Dp K H gv (encTs ts) ∧ TsOk ts ∧ ts.length ≤ 4 ∧ Dp K H rv (encRoll b) ∧ H ao = some (.lst (zs.map V.str)) ∧ zs ≠ [] ∧ zs.length ≤ 7 ∧ (∀ z ∈ zs, NameOk z) ∧ b.length ≤ 7 ∧ (∀ z ∈ nms_ b, z ∈ zs) ∧
  ∀ (H' : Hp) (y : V) (dd : Deed), Kp (fun a => a = p) H H' → PurseAt H' p → Dp K H' y (encDeed dd) → DeedOk ts dd → Fit b dd → (∀ z Pt, dd = .put z Pt → z ∈ zs) → Q y H'
theorem ok_lw_deed (T : Txt mg) (F : FnP K "_law_deed" s_lw_deed f fd) (g : mg "_law_deed" = some (.ref f)) (c_lw_pick : Cal P w K mg base 1 "_law_pick" spPick) (c_lw_some_piece : Cal P w K mg base 4 "_law_some_piece" (spPiece K)) : Cal P w K mg base 5 "_law_deed" (spDeed K) := by
  have nd := sc_lw_deed.nd
  refine mkCal F g (F.bindsN fun _ _ _ _ _ _ us hl => match us, hl with | [_, _, _, _], _ => rfl) sc_lw_deed (fun vs H Q E ⟨_, _, _, _, _, _, _, h, _⟩ => by rw [h]; rfl) fun cdv A outer s H vs Q E hcd hr ⟨p, gv, rv, ao, ts, b, zs, hv, hp, dg, hts, h4, dr, ho, hzn, hz7, hz, hb7, hsub, hQ⟩ => ⟨_, (pss_cons (ps_asg (pe_tup (pa_cons (C8.pe_c c_lw_pick hr (by decide) rfl (pa_cons (pv 0) (pa_cons pe_int pa_nil))) (pa_cons (pe_lc (own := [("_law_pair", 8)]) (g := (gName 8)) rfl nd (kpi_tup (K := K) (pv 2)) (blkOk_by (N := N_lw_deed) (sc := defScope s_lw_deed) (by decide +kernel)) (fun _ _ _ _ _ => (pg_name (i := 8) nd rfl (Or.inl rfl))) (fun _ _ _ _ _ => pts_nil) (fun _ _ _ _ _ => (pe_ix (k_ixT (K := K)) (pv 8) pe_int (fun _ _ => rfl)))) pa_nil))) (pg_tup rfl (pgs_cons (pg_name (i := 4) nd rfl (Or.inl rfl)) (pgs_cons (pg_name (i := 5) nd rfl (Or.inr rfl)) pgs_nil))))
    (pss_cons (ps_par (i := 6) (j := 7) rfl nd rfl rfl (by decide) rfl rfl (pa_cons (pe_lc (own := [("_law_word", 9)]) (g := (gName 9)) rfl nd (kpi_list (K := K) (pv 3)) (blkOk_by (N := N_lw_deed) (sc := defScope s_lw_deed) (by decide +kernel)) (fun _ _ _ _ _ => (pg_name (i := 9) nd rfl (Or.inl rfl))) (fun _ _ _ _ _ => pts_one (pt_cmpR (k_notIn_seq (K := K)) (pv 9) (pv 5) (by with_unfolding_all rfl))) (fun _ _ _ _ _ => (pv 9))) (pa_cons (C8.pe_c c_lw_some_piece hr (by decide) rfl (pa_cons (pv 0) (pa_cons (pv 1) pa_nil))) pa_nil)) rfl)
    (pss_cons (ps_if (pt_cmpR op_eq (pv 4) pe_int (nomark _)) (pss_one (ps_ret (pe_tup (pa_cons pe_str (pa_cons (pe_ix (k_ixL (K := K)) (pe_lst (pa_cons pe_int (pa_cons pe_int (pa_cons pe_int (pa_cons pe_int (pa_cons pe_int (pa_cons pe_int (pa_cons pe_int (pa_cons pe_int pa_nil))))))))) (C8.pe_c c_lw_pick hr (by decide) rfl (pa_cons (pv 0) (pa_cons pe_int pa_nil))) (fun _ _ => rfl)) pa_nil))))) pss_nil)
    (pss_cons (ps_if (PW.pt (pw_and (pt_cmpR (k_neE (K := K) (hu1_of hr)) (pv 5) (pe_lst pa_nil) (nomark _)) (pw_and1 (PW.pt (pw_or (pt_cmpR op_eq (pv 4) pe_int (nomark _)) (pw_or1 (PW.pt (pw_and (pt_cmpR op_eq (pv 4) pe_int (nomark _)) (pw_and1 (pt_cmpR (k_eqE (K := K) (hu1_of hr)) (pv 6) (pe_lst pa_nil) (nomark _))))))))))) (pss_one (ps_ret (pe_tup (pa_cons pe_str (pa_cons (pe_ix (k_ixL (K := K)) (pv 5) (C8.pe_c c_lw_pick hr (by decide) rfl (pa_cons (pv 0) (pa_cons (pe_callB (k_len (K := K)) rfl T.len bt_len (pa_cons (pv 5) pa_nil)) pa_nil))) (fun _ _ => rfl)) pa_nil))))) pss_nil)
    (pss_cons (ps_if (PW.pt (pw_and (pt_cmpR (k_neE (K := K) (hu1_of hr)) (pv 5) (pe_lst pa_nil) (nomark _)) (pw_and1 (PW.pt (pw_or (pt_cmpR op_eq (pv 4) pe_int (nomark _)) (pw_or1 (pt_cmpR (k_eqE (K := K) (hu1_of hr)) (pv 6) (pe_lst pa_nil) (nomark _)))))))) (pss_one (ps_ret (pe_tup (pa_cons pe_str (pa_cons (pe_ix (k_ixL (K := K)) (pv 5) (C8.pe_c c_lw_pick hr (by decide) rfl (pa_cons (pv 0) (pa_cons (pe_callB (k_len (K := K)) rfl T.len bt_len (pa_cons (pv 5) pa_nil)) pa_nil))) (fun _ _ => rfl)) (pa_cons (pv 7) pa_nil)))))) pss_nil)
    (pss_one (ps_ret (pe_tup (pa_cons pe_str (pa_cons (pe_ix (k_ixL (K := K)) (pv 6) (C8.pe_c c_lw_pick hr (by decide) rfl (pa_cons (pv 0) (pa_cons (pe_callB (k_len (K := K)) rfl T.len bt_len (pa_cons (pv 6) pa_nil)) pa_nil))) (fun _ _ => rfl)) (pa_cons (pv 7) pa_nil))))))))))), ?_⟩
  subst hv
  obtain ⟨a1, xs, rfl, ha1, da1⟩ := dp_T dr
  have lx : xs.length = b.length := by rw [dpAll_length da1, List.length_map]
  have hpo : ao ≠ p := fun z => by
    obtain ⟨a, c, d, h⟩ := hp
    rw [z, h] at ho
    injection ho with ho
    injection ho with ho
    cases zs with
    | nil => exact hzn rfl
    | cons z zs => injection ho with h1 _; cases h1
  refine ⟨_, rfl, p, 8, rfl, hp, by decide, by decide, fun H1 m k1 hp1 hm => ?_⟩
  have ha11 := sqT_kp k1 ha1
  have da11 : DpAll K H1 xs (b.map encPair) := dpAll_kp k1 _ _ (flat_pairs b) da1
  -- known
  refine ⟨_, rfl, a1, rfl, ⟨_, ha11⟩, fun kA nkA => ?_⟩
  refine lcE (walk_tup (xs := xs)) (fun i => (b[i]?).map fun x => x.1) (fun z v _ => v = .str z) (by omega) nkA (fun H k => sqT_ex k ha11) (fun _ _ _ _ _ h => h) (fun i y H2 H' QF QT hi k hys yy q1 q2 => ?_) fun H2 ys k2 hys pr => ?_
  · obtain ⟨rfl, e⟩ := yy
    obtain ⟨x, hx, dx⟩ := dpAll_pr da11 e
    obtain ⟨c, pv, rfl, hc, hpv⟩ := dp_pair (dp_ex k _ _ dx)
    exact ⟨rfl, _, rfl, c, _, _, _, rfl, rfl, hc, atI_nat (j := 0) rfl, q2 x.1 (by rw [hx]; rfl) _ _ Ex.refl rfl⟩
  obtain ⟨ks, eks⟩ : ∃ ks, ks = nms_ b := ⟨_, rfl⟩
  have er : (List.range xs.length).filterMap (fun i => (b[i]?).map fun x => x.1) = ks := by
    rw [lx, eks]
    have h := List.filterMap_getElem?_range_length (b.map fun x => x.1)
    rw [List.length_map] at h
    refine Eq.trans ?_ h
    congr 1
    funext j
    rw [List.getElem?_map]
  rw [er] at pr
  have ey := paired_eq (Hh := H2) V.str pr
  subst ey
  rw [← eks] at hsub
  have lks : ks.length = b.length := by rw [eks]; exact List.length_map _
  refine ⟨by show 2 ≤ sizeLine; decide, fun q nq => ?_⟩
  have kq := Ex.one (o := .tup [nI m, .ref kA]) nq
  refine ⟨q, _, rfl, SqT.of upd_same, rfl, _, _, rfl, _, _, rfl, rfl, ?_⟩
  have k03 := k1.trans (k2.trans kq).kp
  have hp3 := hp1.ex (k2.trans kq)
  have ho3 := k03 ao _ ho fun z => absurd z hpo
  have hk3 := kq _ _ hys
  have hpk : kA ≠ p := fun z => hp1.ne nkA z.symm
  -- fresh
  refine ⟨_, rfl, ao, rfl, ⟨_, SqL.of ho3⟩, fun fA nfA => ?_⟩
  have lz : (zs.map V.str).length = zs.length := List.length_map _
  refine lcE (walk_list (xs := zs.map V.str)) (fun i => (zs[i]?).bind fun z => if (!ks.contains z) = true then some z else none) (fun z v _ => v = .str z) (by omega) nfA (fun H k => SqL.of (k _ _ ho3)) (fun _ _ _ _ _ h => h) (fun i y H4 H' QF QT hi k hys4 yy q1 q2 => ?_) fun H4 ys k4 hys4 pr => ?_
  · obtain ⟨rfl, e⟩ := yy
    obtain ⟨z, hz1, rfl⟩ := str_at e
    rw [hz1] at q1 q2
    by_cases c : (!ks.contains z) = true
    · refine ⟨rfl, _, rfl, _, rfl, kA, _, rfl, .inl (SqL.of (k _ _ hk3)), rfl, flat_str _, true, ?_, _, rfl, q2 z ?_ _ _ Ex.refl rfl⟩
      · show V.bl (!inV (.str z) (ks.map V.str)) = _
        rw [inV_str, c]
      · simp only [Option.bind]
        rw [if_pos c]
    · refine ⟨rfl, _, rfl, _, rfl, kA, _, rfl, .inl (SqL.of (k _ _ hk3)), rfl, flat_str _, false, ?_, q1 ?_ _ Ex.refl⟩
      · show V.bl (!inV (.str z) (ks.map V.str)) = _
        rw [inV_str, Bool.eq_false_iff.mpr c]
      · simp only [Option.bind]
        rw [if_neg c]
  rw [lz, filterMap_range] at pr
  obtain ⟨fs, efs⟩ : ∃ fs, fs = zs.filter fun z => !ks.contains z := ⟨_, rfl⟩
  rw [← efs] at pr
  have ey := paired_eq (Hh := H4) V.str pr
  subst ey
  have lfs : fs.length ≤ 7 := by rw [efs]; exact Nat.le_trans (List.length_filter_le _ _) hz7
  have hp4 := hp3.ex k4
  have hpf : fA ≠ p := fun z => hp3.ne nfA z.symm
  have k04 := k03.trans (k4.kp (S := fun a => a = p))
  refine ⟨_, rfl, _, rfl, p, gv, ts, rfl, hp4, dp_kp k04 _ _ (flat_P ts) dg, hts, h4, fun H5 pc Pt k5 hp5 okP dP => ⟨_, _, rfl, ?_⟩⟩
  have hk5 := k5 kA _ (k4 _ _ hk3) fun z => absurd z hpk
  have hf5 := k5 fA _ hys4 fun z => absurd z hpf
  have k05 := k04.trans k5
  have inv : ∀ Hx Hy : Hp, (Kp (fun a => a = p) H Hx ∧ PurseAt Hx p ∧ Hx kA = some (.lst (ks.map V.str)) ∧ Hx fA = some (.lst (fs.map V.str)) ∧ Dp K Hx pc (encP Pt)) → Ex Hx Hy → (Kp (fun a => a = p) H Hy ∧ PurseAt Hy p ∧ Hy kA = some (.lst (ks.map V.str)) ∧ Hy fA = some (.lst (fs.map V.str)) ∧ Dp K Hy pc (encP Pt)) :=
    fun Hx Hy ⟨i1, i2, i3, i4, i5⟩ k => ⟨i1.trans k.kp, i2.ex k, k _ _ i3, k _ _ i4, dp_ex k _ _ i5⟩
  have ix : Kp (fun a => a = p) H H5 ∧ PurseAt H5 p ∧ H5 kA = some (.lst (ks.map V.str)) ∧ H5 fA = some (.lst (fs.map V.str)) ∧ Dp K H5 pc (encP Pt) := ⟨k05, hp5, hk5, hf5, dP⟩
  clear nkA nfA hys hys4 hk3 ho3 hk5 hf5
  by_cases m0 : m = 0
  · refine ⟨_, rfl, rfl, true, bT (congrArg V.int (by omega)), ?_⟩
    refine ⟨by show 8 ≤ sizeLine; decide, fun l8 nl8 => ?_⟩
    have kl := Ex.one (o := .lst ([0, 1, 1, 2, 3, 4, 9, 48].map nI)) nl8
    have ix := inv _ _ ix kl
    have hpl : l8 ≠ p := fun z => hp5.ne nl8 z.symm
    refine ⟨_, rfl, p, 8, rfl, ix.2.1, by decide, by decide, fun H7 r k7 hp7 hr => ?_⟩
    have hl7 := k7 l8 _ (upd_same (H := H5) (o := .lst ([0, 1, 1, 2, 3, 4, 9, 48].map nI))) fun z => absurd z hpl
    obtain ⟨u, hu⟩ : ∃ u, ([0, 1, 1, 2, 3, 4, 9, 48] : List Nat)[r]? = some u := ⟨_, List.getElem?_eq_getElem hr⟩
    have u48 : ∀ u ∈ ([0, 1, 1, 2, 3, 4, 9, 48] : List Nat), u ≤ 48 := by decide
    refine ⟨l8, _, _, _, rfl, rfl, SqL.of hl7, atI_nat (at_nI hu), by show 2 ≤ sizeLine; decide, fun q nq => ?_⟩
    exact hQ _ (.ref q) (.reach u) ((ix.1.trans k7).trans (Ex.one nq).kp) (hp7.ex (Ex.one nq)) (.tup (SqT.of upd_same) (.cons (.str _) (.cons (.int _) .nil))) (u48 u (List.mem_of_getElem? hu)) trivial (fun _ _ e => (nomatch e))
  · refine ⟨_, rfl, rfl, false, bF (fun z => m0 (by injection z with z <;> omega)), ?_⟩
    by_cases hke0 : ks = []
    · have hke : (ks.map V.str).isEmpty = true := by rw [hke0]; rfl
      have hfs : 0 < fs.length := by
        rw [efs, hke0]
        refine List.length_pos_iff.mpr fun z => hzn ?_
        exact List.eq_nil_iff_forall_not_mem.mpr (by simpa using z)
      refine ⟨_, rfl, by show 0 ≤ sizeLine; exact Nat.zero_le _, fun q1 n1 => ?_⟩
      have ix := inv _ _ ix (Ex.one (o := .lst []) n1)
      refine ⟨false, kA, q1, _, rfl, rfl, SqL.of ix.2.2.1, SqL.of upd_same, false, (by show V.bl (!(ks.map V.str).isEmpty) = _; rw [hke]; rfl), ?_⟩

      refine ⟨_, rfl, by show 0 ≤ sizeLine; exact Nat.zero_le _, fun q1 n1 => ?_⟩
      have ix := inv _ _ ix (Ex.one (o := .lst []) n1)
      refine ⟨false, kA, q1, _, rfl, rfl, SqL.of ix.2.2.1, SqL.of upd_same, false, (by show V.bl (!(ks.map V.str).isEmpty) = _; rw [hke]; rfl), ?_⟩

      refine ⟨_, rfl, _, rfl, _, rfl, fA, _, rfl, .inl (SqL.of ix.2.2.2.1), p, fs.length, by rw [List.length_map]; rfl, ix.2.1, hfs, by omega, fun H7 r k7 hp7 hr => ?_⟩
      have hk7 := k7 fA _ ix.2.2.2.1 fun z => absurd z hpf
      obtain ⟨w, hw⟩ : ∃ w, fs[r]? = some w := ⟨_, List.getElem?_eq_getElem hr⟩
      have mw := List.mem_of_getElem? hw

      have mf := List.mem_filter.mp (efs ▸ mw)
      refine ⟨fA, _, _, _, rfl, rfl, SqL.of hk7, atI_nat (at_str hw), _, rfl, by show 3 ≤ sizeLine; decide, fun q nq => ?_⟩
      refine hQ _ (.ref q) (.put w Pt) ((ix.1.trans k7).trans (Ex.one nq).kp) (hp7.ex (Ex.one nq)) (.tup (SqT.of upd_same) (.cons (.str _) (.cons (.str _) (.cons (dp_ex (Ex.one nq) _ _ (dp_kp k7 _ _ (flat_P _) ix.2.2.2.2)) .nil)))) ⟨hz w mf.1, okP⟩ ⟨fun z => ?_, by omega⟩ (fun z _ e => by cases e; exact mf.1)
      have := mf.2
      rw [List.contains_iff_mem.mpr (eks ▸ z)] at this
      exact Bool.false_ne_true this
    · have hke : (ks.map V.str).isEmpty = false := emp_no hke0
      have hks : 0 < ks.length := List.length_pos_iff.mpr hke0
      refine ⟨_, rfl, by show 0 ≤ sizeLine; exact Nat.zero_le _, fun q1 n1 => ?_⟩
      have ix := inv _ _ ix (Ex.one (o := .lst []) n1)
      refine ⟨false, kA, q1, _, rfl, rfl, SqL.of ix.2.2.1, SqL.of upd_same, true, (by show V.bl (!(ks.map V.str).isEmpty) = _; rw [hke]; rfl), ?_⟩

      by_cases m1 : m = 1
      · refine ⟨_, rfl, rfl, true, bT (congrArg V.int (by omega)), ?_⟩
        refine ⟨_, rfl, _, rfl, _, rfl, kA, _, rfl, .inl (SqL.of ix.2.2.1), p, ks.length, by rw [List.length_map]; rfl, ix.2.1, hks, by omega, fun H7 r k7 hp7 hr => ?_⟩
        have hk7 := k7 kA _ ix.2.2.1 fun z => absurd z hpk
        obtain ⟨w, hw⟩ : ∃ w, ks[r]? = some w := ⟨_, List.getElem?_eq_getElem hr⟩
        have mw := List.mem_of_getElem? hw

        refine ⟨kA, _, _, _, rfl, rfl, SqL.of hk7, atI_nat (at_str hw), by show 2 ≤ sizeLine; decide, fun q nq => ?_⟩
        exact hQ _ (.ref q) (.strike w) ((ix.1.trans k7).trans (Ex.one nq).kp) (hp7.ex (Ex.one nq)) (.tup (SqT.of upd_same) (.cons (.str _) (.cons (.str _) .nil))) (hz w (hsub w mw)) (show w ∈ nms_ b from eks ▸ mw) (fun _ _ e => (nomatch e))
      · refine ⟨_, rfl, rfl, false, bF (fun z => m1 (by injection z with z <;> omega)), ?_⟩
        by_cases m2 : m = 2
        · refine ⟨_, rfl, rfl, true, bT (congrArg V.int (by omega)), ?_⟩
          by_cases hf : fs = []
          · have hfe : (fs.map V.str).isEmpty = true := by rw [hf]; rfl
            refine ⟨_, rfl, by show 0 ≤ sizeLine; exact Nat.zero_le _, fun q1 n1 => ?_⟩
            have ix := inv _ _ ix (Ex.one (o := .lst []) n1)
            refine ⟨false, fA, q1, _, rfl, rfl, SqL.of ix.2.2.2.1, SqL.of upd_same, true, (by show V.bl ((fs.map V.str).isEmpty) = _; rw [hfe]), ?_⟩

            refine ⟨_, rfl, _, rfl, _, rfl, kA, _, rfl, .inl (SqL.of ix.2.2.1), p, ks.length, by rw [List.length_map]; rfl, ix.2.1, hks, by omega, fun H7 r k7 hp7 hr => ?_⟩
            have hk7 := k7 kA _ ix.2.2.1 fun z => absurd z hpk
            obtain ⟨w, hw⟩ : ∃ w, ks[r]? = some w := ⟨_, List.getElem?_eq_getElem hr⟩
            have mw := List.mem_of_getElem? hw

            refine ⟨kA, _, _, _, rfl, rfl, SqL.of hk7, atI_nat (at_str hw), by show 2 ≤ sizeLine; decide, fun q nq => ?_⟩
            exact hQ _ (.ref q) (.strike w) ((ix.1.trans k7).trans (Ex.one nq).kp) (hp7.ex (Ex.one nq)) (.tup (SqT.of upd_same) (.cons (.str _) (.cons (.str _) .nil))) (hz w (hsub w mw)) (show w ∈ nms_ b from eks ▸ mw) (fun _ _ e => (nomatch e))
          · have hfe : (fs.map V.str).isEmpty = false := emp_no hf
            have hfs : 0 < fs.length := List.length_pos_iff.mpr hf
            refine ⟨_, rfl, by show 0 ≤ sizeLine; exact Nat.zero_le _, fun q1 n1 => ?_⟩
            have ix := inv _ _ ix (Ex.one (o := .lst []) n1)
            refine ⟨false, fA, q1, _, rfl, rfl, SqL.of ix.2.2.2.1, SqL.of upd_same, false, (by show V.bl ((fs.map V.str).isEmpty) = _; rw [hfe]), ?_⟩

            refine ⟨_, rfl, by show 0 ≤ sizeLine; exact Nat.zero_le _, fun q1 n1 => ?_⟩
            have ix := inv _ _ ix (Ex.one (o := .lst []) n1)
            refine ⟨false, kA, q1, _, rfl, rfl, SqL.of ix.2.2.1, SqL.of upd_same, true, (by show V.bl (!(ks.map V.str).isEmpty) = _; rw [hke]; rfl), ?_⟩

            by_cases m3 : m = 3
            · refine ⟨_, rfl, rfl, true, bT (congrArg V.int (by omega)), ?_⟩
              refine ⟨_, rfl, _, rfl, _, rfl, kA, _, rfl, .inl (SqL.of ix.2.2.1), p, ks.length, by rw [List.length_map]; rfl, ix.2.1, hks, by omega, fun H7 r k7 hp7 hr => ?_⟩
              have hk7 := k7 kA _ ix.2.2.1 fun z => absurd z hpk
              obtain ⟨w, hw⟩ : ∃ w, ks[r]? = some w := ⟨_, List.getElem?_eq_getElem hr⟩
              have mw := List.mem_of_getElem? hw

              refine ⟨kA, _, _, _, rfl, rfl, SqL.of hk7, atI_nat (at_str hw), _, rfl, by show 3 ≤ sizeLine; decide, fun q nq => ?_⟩
              exact hQ _ (.ref q) (.move w Pt) ((ix.1.trans k7).trans (Ex.one nq).kp) (hp7.ex (Ex.one nq)) (.tup (SqT.of upd_same) (.cons (.str _) (.cons (.str _) (.cons (dp_ex (Ex.one nq) _ _ (dp_kp k7 _ _ (flat_P _) ix.2.2.2.2)) .nil)))) ⟨hz w (hsub w mw), okP⟩ (show w ∈ nms_ b from eks ▸ mw) (fun _ _ e => (nomatch e))
            · refine ⟨_, rfl, rfl, false, bF (fun z => m3 (by injection z with z <;> omega)), ?_⟩
              by_cases hf : fs = []
              · have hfe : (fs.map V.str).isEmpty = true := by rw [hf]; rfl
                refine ⟨_, rfl, by show 0 ≤ sizeLine; exact Nat.zero_le _, fun q1 n1 => ?_⟩
                have ix := inv _ _ ix (Ex.one (o := .lst []) n1)
                refine ⟨false, fA, q1, _, rfl, rfl, SqL.of ix.2.2.2.1, SqL.of upd_same, true, (by show V.bl ((fs.map V.str).isEmpty) = _; rw [hfe]), ?_⟩

                refine ⟨_, rfl, _, rfl, _, rfl, kA, _, rfl, .inl (SqL.of ix.2.2.1), p, ks.length, by rw [List.length_map]; rfl, ix.2.1, hks, by omega, fun H7 r k7 hp7 hr => ?_⟩
                have hk7 := k7 kA _ ix.2.2.1 fun z => absurd z hpk
                obtain ⟨w, hw⟩ : ∃ w, ks[r]? = some w := ⟨_, List.getElem?_eq_getElem hr⟩
                have mw := List.mem_of_getElem? hw

                refine ⟨kA, _, _, _, rfl, rfl, SqL.of hk7, atI_nat (at_str hw), _, rfl, by show 3 ≤ sizeLine; decide, fun q nq => ?_⟩
                exact hQ _ (.ref q) (.move w Pt) ((ix.1.trans k7).trans (Ex.one nq).kp) (hp7.ex (Ex.one nq)) (.tup (SqT.of upd_same) (.cons (.str _) (.cons (.str _) (.cons (dp_ex (Ex.one nq) _ _ (dp_kp k7 _ _ (flat_P _) ix.2.2.2.2)) .nil)))) ⟨hz w (hsub w mw), okP⟩ (show w ∈ nms_ b from eks ▸ mw) (fun _ _ e => (nomatch e))
              · have hfe : (fs.map V.str).isEmpty = false := emp_no hf
                have hfs : 0 < fs.length := List.length_pos_iff.mpr hf
                refine ⟨_, rfl, by show 0 ≤ sizeLine; exact Nat.zero_le _, fun q1 n1 => ?_⟩
                have ix := inv _ _ ix (Ex.one (o := .lst []) n1)
                refine ⟨false, fA, q1, _, rfl, rfl, SqL.of ix.2.2.2.1, SqL.of upd_same, false, (by show V.bl ((fs.map V.str).isEmpty) = _; rw [hfe]), ?_⟩

                refine ⟨_, rfl, _, rfl, _, rfl, fA, _, rfl, .inl (SqL.of ix.2.2.2.1), p, fs.length, by rw [List.length_map]; rfl, ix.2.1, hfs, by omega, fun H7 r k7 hp7 hr => ?_⟩
                have hk7 := k7 fA _ ix.2.2.2.1 fun z => absurd z hpf
                obtain ⟨w, hw⟩ : ∃ w, fs[r]? = some w := ⟨_, List.getElem?_eq_getElem hr⟩
                have mw := List.mem_of_getElem? hw

                have mf := List.mem_filter.mp (efs ▸ mw)
                refine ⟨fA, _, _, _, rfl, rfl, SqL.of hk7, atI_nat (at_str hw), _, rfl, by show 3 ≤ sizeLine; decide, fun q nq => ?_⟩
                refine hQ _ (.ref q) (.put w Pt) ((ix.1.trans k7).trans (Ex.one nq).kp) (hp7.ex (Ex.one nq)) (.tup (SqT.of upd_same) (.cons (.str _) (.cons (.str _) (.cons (dp_ex (Ex.one nq) _ _ (dp_kp k7 _ _ (flat_P _) ix.2.2.2.2)) .nil)))) ⟨hz w mf.1, okP⟩ ⟨fun z => ?_, by omega⟩ (fun z _ e => by cases e; exact mf.1)
                have := mf.2
                rw [List.contains_iff_mem.mpr (eks ▸ z)] at this
                exact Bool.false_ne_true this
        · refine ⟨_, rfl, rfl, false, bF (fun z => m2 (by injection z with z <;> omega)), ?_⟩
          refine ⟨_, rfl, by show 0 ≤ sizeLine; exact Nat.zero_le _, fun q1 n1 => ?_⟩
          have ix := inv _ _ ix (Ex.one (o := .lst []) n1)
          refine ⟨false, kA, q1, _, rfl, rfl, SqL.of ix.2.2.1, SqL.of upd_same, true, (by show V.bl (!(ks.map V.str).isEmpty) = _; rw [hke]; rfl), ?_⟩

          by_cases m3 : m = 3
          · refine ⟨_, rfl, rfl, true, bT (congrArg V.int (by omega)), ?_⟩
            refine ⟨_, rfl, _, rfl, _, rfl, kA, _, rfl, .inl (SqL.of ix.2.2.1), p, ks.length, by rw [List.length_map]; rfl, ix.2.1, hks, by omega, fun H7 r k7 hp7 hr => ?_⟩
            have hk7 := k7 kA _ ix.2.2.1 fun z => absurd z hpk
            obtain ⟨w, hw⟩ : ∃ w, ks[r]? = some w := ⟨_, List.getElem?_eq_getElem hr⟩
            have mw := List.mem_of_getElem? hw

            refine ⟨kA, _, _, _, rfl, rfl, SqL.of hk7, atI_nat (at_str hw), _, rfl, by show 3 ≤ sizeLine; decide, fun q nq => ?_⟩
            exact hQ _ (.ref q) (.move w Pt) ((ix.1.trans k7).trans (Ex.one nq).kp) (hp7.ex (Ex.one nq)) (.tup (SqT.of upd_same) (.cons (.str _) (.cons (.str _) (.cons (dp_ex (Ex.one nq) _ _ (dp_kp k7 _ _ (flat_P _) ix.2.2.2.2)) .nil)))) ⟨hz w (hsub w mw), okP⟩ (show w ∈ nms_ b from eks ▸ mw) (fun _ _ e => (nomatch e))
          · refine ⟨_, rfl, rfl, false, bF (fun z => m3 (by injection z with z <;> omega)), ?_⟩
            by_cases hf : fs = []
            · have hfe : (fs.map V.str).isEmpty = true := by rw [hf]; rfl
              refine ⟨_, rfl, by show 0 ≤ sizeLine; exact Nat.zero_le _, fun q1 n1 => ?_⟩
              have ix := inv _ _ ix (Ex.one (o := .lst []) n1)
              refine ⟨false, fA, q1, _, rfl, rfl, SqL.of ix.2.2.2.1, SqL.of upd_same, true, (by show V.bl ((fs.map V.str).isEmpty) = _; rw [hfe]), ?_⟩

              refine ⟨_, rfl, _, rfl, _, rfl, kA, _, rfl, .inl (SqL.of ix.2.2.1), p, ks.length, by rw [List.length_map]; rfl, ix.2.1, hks, by omega, fun H7 r k7 hp7 hr => ?_⟩
              have hk7 := k7 kA _ ix.2.2.1 fun z => absurd z hpk
              obtain ⟨w, hw⟩ : ∃ w, ks[r]? = some w := ⟨_, List.getElem?_eq_getElem hr⟩
              have mw := List.mem_of_getElem? hw

              refine ⟨kA, _, _, _, rfl, rfl, SqL.of hk7, atI_nat (at_str hw), _, rfl, by show 3 ≤ sizeLine; decide, fun q nq => ?_⟩
              exact hQ _ (.ref q) (.move w Pt) ((ix.1.trans k7).trans (Ex.one nq).kp) (hp7.ex (Ex.one nq)) (.tup (SqT.of upd_same) (.cons (.str _) (.cons (.str _) (.cons (dp_ex (Ex.one nq) _ _ (dp_kp k7 _ _ (flat_P _) ix.2.2.2.2)) .nil)))) ⟨hz w (hsub w mw), okP⟩ (show w ∈ nms_ b from eks ▸ mw) (fun _ _ e => (nomatch e))
            · have hfe : (fs.map V.str).isEmpty = false := emp_no hf
              have hfs : 0 < fs.length := List.length_pos_iff.mpr hf
              refine ⟨_, rfl, by show 0 ≤ sizeLine; exact Nat.zero_le _, fun q1 n1 => ?_⟩
              have ix := inv _ _ ix (Ex.one (o := .lst []) n1)
              refine ⟨false, fA, q1, _, rfl, rfl, SqL.of ix.2.2.2.1, SqL.of upd_same, false, (by show V.bl ((fs.map V.str).isEmpty) = _; rw [hfe]), ?_⟩

              refine ⟨_, rfl, _, rfl, _, rfl, fA, _, rfl, .inl (SqL.of ix.2.2.2.1), p, fs.length, by rw [List.length_map]; rfl, ix.2.1, hfs, by omega, fun H7 r k7 hp7 hr => ?_⟩
              have hk7 := k7 fA _ ix.2.2.2.1 fun z => absurd z hpf
              obtain ⟨w, hw⟩ : ∃ w, fs[r]? = some w := ⟨_, List.getElem?_eq_getElem hr⟩
              have mw := List.mem_of_getElem? hw

              have mf := List.mem_filter.mp (efs ▸ mw)
              refine ⟨fA, _, _, _, rfl, rfl, SqL.of hk7, atI_nat (at_str hw), _, rfl, by show 3 ≤ sizeLine; decide, fun q nq => ?_⟩
              refine hQ _ (.ref q) (.put w Pt) ((ix.1.trans k7).trans (Ex.one nq).kp) (hp7.ex (Ex.one nq)) (.tup (SqT.of upd_same) (.cons (.str _) (.cons (.str _) (.cons (dp_ex (Ex.one nq) _ _ (dp_kp k7 _ _ (flat_P _) ix.2.2.2.2)) .nil)))) ⟨hz w mf.1, okP⟩ ⟨fun z => ?_, by omega⟩ (fun z _ e => by cases e; exact mf.1)
              have := mf.2
              rw [List.contains_iff_mem.mpr (eks ▸ z)] at this
              exact Bool.false_ne_true this
end
end J

set_option Elab.async false
set_option linter.all false
set_option maxRecDepth 100000
set_option maxHeartbeats 8000000
/-! KA: the law's changed_right; the plain law of one turn. -/
namespace J
open PySem PySem.Spec PyProof.Rows L2
def EachIn (A B : List Part) : Prop := ∀ Pt ∈ A, ∃ Qt ∈ B, Ins Pt Qt
def ChOk (dd : Deed) (r : Nat) (G C : List Part) : Prop := match dd with
  | .put _ _ => C.length < 2 ∧ EachIn G C
  | .strike _ => G.length < 2 ∧ EachIn C G
  | .reach r' => (r ≤ r' → EachIn G C) ∧ (r' < r → EachIn C G)
  | .move _ _ => True
def Shape (n : Nat) (G : List Part) : Prop := G.length ≤ 100 ∧ ∀ Pt ∈ G, Pt.length = n ∧ ∀ b ∈ Pt, b.length ≤ 6
section
variable {P : Program} {w : World} {K : PySem.W.Frag} {mg : Str → Option Value} {base : Heap} {f : Addr} {fd : FuncData}
abbrev N_lw_changed_right : List Str := ["_law_act", "_law_wide", "_law_gone", "_law_come"]
theorem sc_lw_changed_right : FnScope N_lw_changed_right ["_law_act", "_law_wide", "_law_gone", "_law_come"] (defScope s_lw_changed_right) := C8.fnScope_by (by decide +kernel)
def spChanged (K : PySem.W.Frag) : Sp := fun vs H Q _ => ∃ (v gv cv : V) (r n : Nat) (dd : Deed) (G C : List Part), vs = [v, nI r, gv, cv] ∧ Dp K H v (encDeed dd) ∧ Dp K H gv (.tuple (G.map encP)) ∧ Dp K H cv (.tuple (C.map encP)) ∧ n ≤ 4 ∧ Shape n G ∧ Shape n C ∧ ChOk dd r G C ∧ ∀ H', Ex H H' → Q (.bl true) H'
theorem ok_lw_changed_right (T : Txt mg) (F : FnP K "_law_changed_right" s_lw_changed_right f fd) (g : mg "_law_changed_right" = some (.ref f)) (c_lw_each_in : Cal P w K mg base 2 "_law_each_in" (spEach K)) : Cal P w K mg base 3 "_law_changed_right" (spChanged K) := by
  have nd := sc_lw_changed_right.nd
  refine mkCal F g (F.bindsN fun _ _ _ _ _ _ us hl => match us, hl with | [_, _, _, _], _ => rfl) sc_lw_changed_right (fun vs H Q E ⟨_, _, _, _, _, _, _, _, h, _⟩ => by rw [h]; rfl) fun cdv A outer s H vs Q E hcd hr ⟨v, gv, cv, r, n, dd, Gs, Cs, hv, hd, hg, hc, hn, sG, sC, ch, hQ⟩ => ⟨_, (pss_cons (ps_if (pt_cmpR op_eq (pe_ix (k_ixT (K := K)) (pv 0) pe_int (fun _ _ => rfl)) pe_str (nomark _)) (pss_one (ps_ret (pe_and (pe_cmpR op_lt (pe_callB (k_len (K := K)) rfl T.len bt_len (pa_cons (pv 3) pa_nil)) pe_int (nomark _)) (pe_one (C8.pe_c c_lw_each_in hr (by decide) rfl (pa_cons (pv 2) (pa_cons (pv 3) pa_nil))))))) pss_nil)
    (pss_cons (ps_if (pt_cmpR op_eq (pe_ix (k_ixT (K := K)) (pv 0) pe_int (fun _ _ => rfl)) pe_str (nomark _)) (pss_one (ps_ret (pe_and (pe_cmpR op_lt (pe_callB (k_len (K := K)) rfl T.len bt_len (pa_cons (pv 2) pa_nil)) pe_int (nomark _)) (pe_one (C8.pe_c c_lw_each_in hr (by decide) rfl (pa_cons (pv 3) (pa_cons (pv 2) pa_nil))))))) pss_nil)
    (pss_cons (ps_if (pt_cmpR op_eq (pe_ix (k_ixT (K := K)) (pv 0) pe_int (fun _ _ => rfl)) pe_str (nomark _)) (pss_one (ps_ret (pe_ifExp (pt_cmpR op_ge (pe_ix (k_ixT (K := K)) (pv 0) pe_int (fun _ _ => rfl)) (pv 1) (nomark _)) (C8.pe_c c_lw_each_in hr (by decide) rfl (pa_cons (pv 2) (pa_cons (pv 3) pa_nil))) (C8.pe_c c_lw_each_in hr (by decide) rfl (pa_cons (pv 3) (pa_cons (pv 2) pa_nil)))))) pss_nil)
    (pss_one (ps_ret pe_bl))))), ?_⟩
  subst hv
  obtain ⟨ga, gx, rfl, hga, dga⟩ := dp_T hg
  obtain ⟨ca, cx, rfl, hca, dca⟩ := dp_T hc
  have lg : gx.length = Gs.length := by rw [dpAll_length dga, List.length_map]
  have lc : cx.length = Cs.length := by rw [dpAll_length dca, List.length_map]
  cases dd with
  | put z Pt =>
    obtain ⟨a, pv, rfl, ha, hpv⟩ := tl_pair hd
    refine ⟨_, rfl, a, _, _, _, rfl, rfl, ha, atI_nat (j := 0) rfl, rfl, true, by decide, ?_⟩
    have h1 := ch.1
    exact ⟨_, rfl, ca, _, rfl, .inr hca, _, _, rfl, rfl, true, bT (by omega), _, rfl, _, rfl, _, _, Gs, Cs, n, rfl, hg, hc, sG.1, sC.1, hn, sG.2, fun Pt h => (sC.2 Pt h).1, ch.2, hQ⟩
  | strike z =>
    obtain ⟨a, rfl, ha⟩ := tl_one hd
    refine ⟨_, rfl, a, _, _, _, rfl, rfl, ha, atI_nat (j := 0) rfl, rfl, false, by decide, ?_⟩
    refine ⟨_, rfl, a, _, _, _, rfl, rfl, ha, atI_nat (j := 0) rfl, rfl, true, by decide, ?_⟩
    have h1 := ch.1
    exact ⟨_, rfl, ga, _, rfl, .inr hga, _, _, rfl, rfl, true, bT (by omega), _, rfl, _, rfl, _, _, Cs, Gs, n, rfl, hc, hg, sC.1, sG.1, hn, sC.2, fun Pt h => (sG.2 Pt h).1, ch.2, hQ⟩
  | reach r' =>
    obtain ⟨a, rfl, ha⟩ := tl_int hd
    refine ⟨_, rfl, a, _, _, _, rfl, rfl, ha, atI_nat (j := 0) rfl, rfl, false, by decide, ?_⟩
    refine ⟨_, rfl, a, _, _, _, rfl, rfl, ha, atI_nat (j := 0) rfl, rfl, false, by decide, ?_⟩
    refine ⟨_, rfl, a, _, _, _, rfl, rfl, ha, atI_nat (j := 0) rfl, rfl, true, by decide, ?_⟩
    refine ⟨_, rfl, a, _, _, _, rfl, rfl, ha, atI_nat (j := 1) rfl, _, rfl, _, _, rfl, rfl, ?_⟩
    by_cases c : r ≤ r'
    · exact ⟨true, bT (Int.ofNat_le.mpr c), _, rfl, _, rfl, _, _, Gs, Cs, n, rfl, hg, hc, sG.1, sC.1, hn, sG.2, fun Pt h => (sC.2 Pt h).1, ch.1 c, hQ⟩
    · exact ⟨false, bF (fun z => c (Int.ofNat_le.mp z)), _, rfl, _, rfl, _, _, Cs, Gs, n, rfl, hc, hg, sC.1, sG.1, hn, sC.2, fun Pt h => (sG.2 Pt h).1, ch.2 (by omega), hQ⟩
  | move z Pt =>
    obtain ⟨a, pv, rfl, ha, hpv⟩ := tl_pair hd
    refine ⟨_, rfl, a, _, _, _, rfl, rfl, ha, atI_nat (j := 0) rfl, rfl, false, by decide, ?_⟩
    refine ⟨_, rfl, a, _, _, _, rfl, rfl, ha, atI_nat (j := 0) rfl, rfl, false, by decide, ?_⟩
    refine ⟨_, rfl, a, _, _, _, rfl, rfl, ha, atI_nat (j := 0) rfl, rfl, false, by decide, ?_⟩
    exact hQ H Ex.refl
end
/-! ### the plain law of one turn -/
section
variable {ts : List Tree} {b : Book} {dd : Deed} {r : Nat} {F F' : List Part}
theorem put_parts (z : Str) (Pt : Part) (Q : Part) : Q ∈ (bookAfter b (.put z Pt)).map (fun x => x.2) ↔ Q ∈ b.map (fun x => x.2) ∨ Q = Pt := by
  show Q ∈ (b ++ [(z, Pt)]).map _ ↔ _
  rw [List.map_append, List.mem_append]
  simp
theorem mem_unique {z : Str} : ∀ {b : Book} {P : Part}, (nms_ b).Nodup → (z, P) ∈ b → ∀ x ∈ b, x.1 = z → x = (z, P)
  | y :: b, P, hn, hm, x, hx, e => by
    have hn' : y.1 ∉ nms_ b ∧ (nms_ b).Nodup := by
      unfold nms_ at hn ⊢
      rw [List.map_cons, List.nodup_cons] at hn
      exact hn
    rcases List.mem_cons.mp hx with h1 | h1 <;> rcases List.mem_cons.mp hm with h2 | h2
    · rw [h1, h2]
    · exact absurd (List.mem_map.mpr ⟨_, h2, by rw [← e, h1]⟩) hn'.1
    · exact absurd (List.mem_map.mpr ⟨_, h1, by rw [e, ← h2]⟩) hn'.1
    · exact mem_unique hn'.2 h2 x h1 e
theorem strike_parts {z : Str} (hn : (nms_ b).Nodup) (h : z ∈ nms_ b) : ∃ Pt, ∀ Q, Q ∈ b.map (fun x => x.2) ↔ Q ∈ (bookAfter b (.strike z)).map (fun x => x.2) ∨ Q = Pt := by
  obtain ⟨x, hx, rfl⟩ := List.mem_map.mp h
  refine ⟨x.2, fun Q => ?_⟩
  show _ ↔ Q ∈ (b.filter fun y => decide (y.1 ≠ x.1)).map _ ∨ _
  constructor
  · intro hq
    obtain ⟨y, hy, rfl⟩ := List.mem_map.mp hq
    by_cases e : y.1 = x.1
    · right
      rw [mem_unique (P := x.2) hn hx y hy e]
    · exact .inl (List.mem_map.mpr ⟨y, List.mem_filter.mpr ⟨hy, decide_eq_true e⟩, rfl⟩)
  · rintro (hq | rfl)
    · obtain ⟨y, hy, rfl⟩ := List.mem_map.mp hq
      exact List.mem_map.mpr ⟨y, (List.mem_filter.mp hy).1, rfl⟩
    · exact List.mem_map.mpr ⟨x, hx, rfl⟩
theorem move_parts {z : Str} {Pt : Part} (hn : (nms_ b).Nodup) (h : z ∈ nms_ b) (Q : Part) : Q ∈ (bookAfter (bookAfter b (.strike z)) (.put z Pt)).map (fun x => x.2) ↔ Q ∈ (bookAfter b (.move z Pt)).map (fun x => x.2) := by
  rw [put_parts]
  show Q ∈ (b.filter fun y => decide (y.1 ≠ z)).map _ ∨ _ ↔ Q ∈ (b.map fun x => (x.1, if x.1 = z then Pt else x.2)).map _
  rw [List.map_map]
  constructor
  · rintro (hq | rfl)
    · obtain ⟨y, hy, rfl⟩ := List.mem_map.mp hq
      have hy := List.mem_filter.mp hy
      refine List.mem_map.mpr ⟨y, hy.1, ?_⟩
      show (if y.1 = z then Pt else y.2) = y.2
      rw [if_neg (of_decide_eq_true hy.2)]
    · obtain ⟨y, hy, e⟩ := List.mem_map.mp h
      refine List.mem_map.mpr ⟨y, hy, ?_⟩
      show (if y.1 = z then Q else y.2) = Q
      rw [if_pos e]
  · intro hq
    obtain ⟨y, hy, e⟩ := List.mem_map.mp hq
    have e : (if y.1 = z then Pt else y.2) = Q := e
    by_cases c : y.1 = z
    · rw [if_pos c] at e
      exact .inr e.symm
    · rw [if_neg c] at e
      exact .inl (List.mem_map.mpr ⟨y, List.mem_filter.mpr ⟨hy, decide_eq_true c⟩, e⟩)
theorem turn_ok (hT : TsOk ts) (hn : (nms_ b).Nodup) (fit : Fit b dd) (h : IsStand ts r (b.map fun x => x.2) F) (h' : IsStand ts (reachAfter r dd) ((bookAfter b dd).map fun x => x.2) F') :
    ChOk dd r (F.filter fun P => !F'.contains P) (F'.filter fun P => !F.contains P) := by
  cases dd with
  | put z Pt => exact put_law hT h h' (put_parts z Pt)
  | strike z =>
    obtain ⟨Pt, e⟩ := strike_parts hn fit
    exact put_law hT h' h e
  | reach r' => exact ⟨fun l => reach_law hT h h' l, fun l => reach_law hT h' h (Nat.le_of_lt l)⟩
  | move z Pt => trivial
end
end J

set_option Elab.async false
set_option linter.all false
set_option maxRecDepth 100000
set_option maxHeartbeats 16000000
/-! KB: the law's right. -/
namespace J
open PySem PySem.Spec PyProof.Rows L2
theorem eqv_Fs : ∀ F : List Part, PyData.eqvAll (F.map encP) (F.map encP) = true
  | [] => rfl
  | P :: F => by
    have ih := eqv_Fs F
    simp only [List.map_cons, PyData.eqvAll, eqv_encP, ih]
    simp
theorem eqv_F (F : List Part) : PyData.eqv (.tuple (F.map encP)) (.tuple (F.map encP)) = true := by
  rw [PyData.eqv]
  exact eqv_Fs F
theorem eqv_FL (F : List Part) : PyData.eqv (.list (F.map encP)) (.list (F.map encP)) = true := by
  rw [PyData.eqv]
  exact eqv_Fs F
theorem shaped_NF (F : List Part) : SeqAt.shaped (.tuple [.none, .tuple (F.map encP)]) = true := shaped_of (by simp [PyData.canLay0, PyData.canLayAll0, lay_Ps F]) (by
  have := depth_Ps F
  simp only [PyData.depth, PyData.depthAll]
  omega)
section
variable {K : PySem.W.Frag} {H H1 H' : Hp} {p : Addr}
theorem Kp.wide {f l : Addr} (h : Kp (fun a => a = p) H H1) (k : Kp (fun a => a = f ∨ a = l) H1 H') (nf : H f = none) (nl : H l = none) : Kp (fun a => a = p) H H' := fun a o q fx => k a o (h a o q fx) fun z => by
  rcases z with rfl | rfl
  · rw [nf] at q
    cases q
  · rw [nl] at q
    cases q
theorem FieldAt.purse {CF CW : Addr} {B : Hp} {f l w0 : Addr} {ts : List Tree} {bz : Bool} {st : FS} {sts : List FS} (h : FieldAt K CF CW B H f l w0 ts bz st sts) (k : Kp (fun a => a = p) H H') (hp : PurseAt H p) (nB : B p = none) (npl : p ≠ l) : FieldAt K CF CW B H' f l w0 ts bz st sts := by
  obtain ⟨h1, h2, h3, h4, h5, h6, dx, tr, d, vk, vs, g1, g2, g3, g4, g5⟩ := h
  obtain ⟨a, b, c, hp⟩ := hp
  have m : Mv H H' := fun x u hu hm => k x u hu fun z => by
    subst z
    rw [hp] at hu
    cases hu
    exact hm.elim
  refine ⟨fun x o hx => k x o (h1 x o hx) fun z => ?_, h2, h3, h4, h5, h6, dx, tr, d, vk, vs, k f _ g1 fun z => ?_, k l _ g2 fun z => absurd z.symm npl, g3.mv m, dp_tt m.kt _ _ (flat_Ps _) g4, Paired.mapP g5 fun _ _ q => q.mv m⟩
  · have z' : x = p := z
    rw [z', nB] at hx
    cases hx
  · have z' : f = p := z
    rw [z', hp] at g1
    cases g1
theorem PurseAt.keep {f l : Addr} (h : PurseAt H p) (k : Kp (fun a => a = f ∨ a = l) H H') (nf : p ≠ f) (nl : p ≠ l) : PurseAt H' p := by
  obtain ⟨a, b, c, h⟩ := h
  exact ⟨a, b, c, k p _ h fun z => by
    rcases z with z | z
    · exact absurd z nf
    · exact absurd z nl⟩
theorem lst_keep {f l a : Addr} {xs : List V} (h : H a = some (.lst xs)) (k : Kp (fun a => a = f ∨ a = l) H H') (nf : a ≠ f) (nl : a ≠ l) : H' a = some (.lst xs) := k a _ h fun z => by
  rcases z with z | z
  · exact absurd z nf
  · exact absurd z nl
end
/-- what stands between two turns -/
structure Turn (K : PySem.W.Frag) (CF CW : Addr) (B H0 H : Hp) (p f l w0 ao : Addr) (ts : List Tree) (zs : List Str) (gv rv : V) (st : FS) (sts : List FS) : Prop where
  kp : Kp (fun a => a = p) H0 H
  pu : PurseAt H p
  fa : FieldAt K CF CW B H f l w0 ts false st sts
  own : H ao = some (.lst (zs.map V.str))
  roll : Dp K H rv (encRoll st.b)
  sub : ∀ z ∈ nms_ st.b, z ∈ zs
  gr : Dp K H gv (encTs ts)
theorem Turn.ex {K : PySem.W.Frag} {CF CW : Addr} {B H0 H H' : Hp} {p f l w0 ao : Addr} {ts : List Tree} {zs : List Str} {gv rv : V} {st : FS} {sts : List FS} (t : Turn K CF CW B H0 H p f l w0 ao ts zs gv rv st sts) (k : Ex H H') : Turn K CF CW B H0 H' p f l w0 ao ts zs gv rv st sts :=
  ⟨t.kp.trans k.kp, t.pu.ex k, t.fa.next k, k _ _ t.own, dp_ex k _ _ t.roll, t.sub, dp_ex k _ _ t.gr⟩
theorem Turn.draw {K : PySem.W.Frag} {CF CW : Addr} {B H0 H H' : Hp} {p f l w0 ao : Addr} {ts : List Tree} {zs : List Str} {gv rv : V} {st : FS} {sts : List FS} (t : Turn K CF CW B H0 H p f l w0 ao ts zs gv rv st sts) (k : Kp (fun a => a = p) H H') (hp : PurseAt H' p) (nB : B p = none) (npl : p ≠ l) (nao : ao ≠ p) : Turn K CF CW B H0 H' p f l w0 ao ts zs gv rv st sts :=
  ⟨t.kp.trans k, hp, t.fa.purse k t.pu nB npl, k ao _ t.own fun z => absurd z nao, dp_kp k _ _ (flat_roll _) t.roll, t.sub, dp_kp k _ _ (flat_P ts) t.gr⟩
theorem Turn.step {K : PySem.W.Frag} {CF CW : Addr} {B H0 H H' : Hp} {p f l w0 ao : Addr} {ts : List Tree} {zs : List Str} {gv rv : V} {st : FS} {sts : List FS} (t : Turn K CF CW B H0 H p f l w0 ao ts zs gv rv st sts) (k : Kp (fun a => a = f ∨ a = l) H H') (fa : FieldAt K CF CW B H' f l w0 ts false st sts)
    (n1 : H0 f = none) (n2 : H0 l = none) (pf : p ≠ f) (pl : p ≠ l) (af : ao ≠ f) (al : ao ≠ l) : Turn K CF CW B H0 H' p f l w0 ao ts zs gv rv st sts :=
  ⟨t.kp.wide k n1 n2, t.pu.keep k pf pl, fa, lst_keep t.own k af al, dp_kp k _ _ (flat_roll _) t.roll, t.sub, dp_kp k _ _ (flat_P ts) t.gr⟩
theorem if_both {R : Hp → V → Prop} {Pred : Hp → V → Prop} {G : Prop} (h : (∀ Hc mv, Pred Hc mv → R Hc mv) → G) (r : ∀ Hc mv, Pred Hc mv → R Hc mv) : G := h r
theorem deed_word {K : PySem.W.Frag} {H : Hp} {v : V} {dd : Deed} (h : Dp K H v (encDeed dd)) : ∃ (a : Addr) (word : Str) (vs : List V), v = .ref a ∧ SqT K H a (.str word :: vs) ∧ (word = "move" → ∃ z Pt, dd = .move z Pt) := by
  cases dd with
  | put z Pt =>
    obtain ⟨a, pv, rfl, ha, _⟩ := tl_pair h
    exact ⟨a, _, _, rfl, ha, fun e => absurd e (by decide)⟩
  | strike z =>
    obtain ⟨a, rfl, ha⟩ := tl_one h
    exact ⟨a, _, _, rfl, ha, fun e => absurd e (by decide)⟩
  | reach r =>
    obtain ⟨a, rfl, ha⟩ := tl_int h
    exact ⟨a, _, _, rfl, ha, fun e => absurd e (by decide)⟩
  | move z Pt =>
    obtain ⟨a, pv, rfl, ha, _⟩ := tl_pair h
    exact ⟨a, _, _, rfl, ha, fun _ => ⟨z, Pt, rfl⟩⟩
theorem sub_after {b : Book} {dd : Deed} {zs : List Str} (h : ∀ z ∈ nms_ b, z ∈ zs) (hp : ∀ z Pt, dd = .put z Pt → z ∈ zs) : ∀ z ∈ nms_ (bookAfter b dd), z ∈ zs := fun z hz => by
  cases dd with
  | put y Pt =>
    have hz' : z ∈ (b ++ [(y, Pt)]).map (·.1) := hz
    rw [List.map_append, List.mem_append] at hz'
    rcases hz' with q | q
    · exact h z q
    · rw [List.mem_singleton.mp q]
      exact hp y Pt rfl
  | strike y => exact h z (nms_filter hz)
  | move y Pt =>
    have hz' : z ∈ nms_ (b.map fun x => (x.1, if x.1 = y then Pt else x.2)) := hz
    rw [nms_map] at hz'
    exact h z hz'
  | reach r => exact h z hz
theorem shape_F {ts : List Tree} {F : List Part} {q : Part → Bool} (hT : TsOk ts) (hl : F.length ≤ 100) (h : ∀ Pt ∈ F, POk ts Pt) : Shape ts.length (F.filter q) :=
  ⟨Nat.le_trans (List.length_filter_le _ _) hl, fun Pt hP => by
    have ok := h Pt (List.mem_filter.mp hP).1
    refine ⟨ok.length, fun b hb => ?_⟩
    obtain ⟨i, hi⟩ := List.getElem?_of_mem hb
    have hk := (List.getElem?_eq_some_iff.mp hi).1
    rw [ok.length] at hk
    exact br_len (hT _ (List.getElem_mem hk)) (ok.at (List.getElem?_eq_getElem hk) hi)⟩
section
variable {P : Program} {w : World} {K : PySem.W.Frag} {mg : Str → Option Value} {base : Heap} {f fF : Addr} {fd fdF : FuncData} {CF CW : Addr}
abbrev N_lw_right : List Str := ["_law_purse_here", "_law_grove_here", "_law_own", "_law_wide", "_law_grange", "_law_roll", "_law_turn", "_law_act", "_law_ahead", "_law_moved", "_law_gone", "_law_come", "_law_piece_here"]
theorem sc_lw_right : FnScope N_lw_right ["_law_purse_here"] (defScope s_lw_right) := C8.fnScope_by (by decide +kernel)
def spRight : Sp := fun vs H Q _ => ∃ p : Addr, vs = [.ref p] ∧ PurseAt H p ∧ ∀ H', Kp (fun a => a = p) H H' → Q (.bl true) H'
theorem ok_lw_right (T : Txt mg) (D : TD K mg CF) (F : FnP K "_law_right" s_lw_right f fd) (g : mg "_law_right" = some (.ref f)) (MF : Mk K CF fF) (FF : FnOk P w K mg base L2.CX0 4 fF fdF ["self", "world", "reach"] (spFieldI K CF CW)) (hb : KBn K fdF ["self", "world", "reach"] 2 ["reach"] (fun us ws => us ++ ws) (fun vs zs => vs ++ zs))
    (c_World : C8.Mak P w K mg base 4 "World" CW (spWorldI K CW) []) (m_stand : C8.Met P w K mg base 1 CF "stand" (spStand K CF CW) []) (m_do : C8.Met P w K mg base 7 CF "do" (spDo K CF CW) []) (m_tried : C8.Met P w K mg base 8 CF "tried" (spTried K CF CW) [])
    (c_lw_start : Cal P w K mg base 4 "_law_start" (spStart K)) (c_lw_deed : Cal P w K mg base 5 "_law_deed" (spDeed K)) (c_lw_changed_right : Cal P w K mg base 3 "_law_changed_right" (spChanged K)) (c_lw_led : Cal P w K mg base 2 "_law_led" (spLed K)) :
    Cal P w K mg base 9 "_law_right" spRight := by
  have nd := sc_lw_right.nd
  refine mkCal F g (F.bindsN fun _ _ _ _ _ _ us hl => match us, hl with | [_], _ => rfl) sc_lw_right (fun vs H Q E ⟨_, h, _⟩ => by rw [h]; rfl) fun cdv A outer s H vs Q E hcd hr ⟨p, hv, hp, hQ⟩ => ⟨_, (pss_cons (ps_asg (C8.pe_c c_lw_start hr (by decide) rfl (pa_cons (pv 0) pa_nil)) (pg_tup rfl (pgs_cons (pg_name (i := 1) nd rfl (Or.inl rfl)) (pgs_cons (pg_name (i := 2) nd rfl (Or.inl rfl)) (pgs_cons (pg_name (i := 3) nd rfl (Or.inl rfl)) pgs_nil)))))
    (pss_cons (ps_par (i := 4) (j := 5) rfl nd rfl rfl (by decide) rfl rfl (pa_cons (pe_makeK (n := 1) (ks := ["reach"]) (E := C8.E0) MF FF (hr.mono (by decide)) rfl D.g hb C8.pass0 (pa_cons (C8.pe_mk c_World hr (by decide) rfl (pa_cons (pv 1) pa_nil)) pa_nil) (pk_cons (pv 3) pk_nil)) (pa_cons (pe_tup pa_nil) pa_nil)) rfl)
    (pss_cons (ps_for PassesOwn.never rfl (pi_range1 rfl T.range (pa_cons pe_int pa_nil)) (pg_name (i := 6) nd rfl (Or.inl rfl)) (pss_cons (ps_set (i := 7) nd rfl (Or.inl rfl) (C8.pe_c c_lw_deed hr (by decide) rfl (pa_cons (pv 0) (pa_cons (pv 1) (pa_cons (pv 5) (pa_cons (pv 2) pa_nil))))))
    (pss_cons (ps_asg (pe_tup (pa_cons (C8.pe_mt0 m_stand hr (by decide) (pv 4)) (pa_cons pe_non pa_nil))) (pg_tup rfl (pgs_cons (pg_name (i := 8) nd rfl (Or.inr rfl)) (pgs_cons (pg_name (i := 9) nd rfl (Or.inl rfl)) pgs_nil))))
    (pss_cons (ps_if (pt_cmpR op_eq (pe_ix (k_ixT (K := K)) (pv 7) pe_int (fun _ _ => rfl)) pe_str (nomark _)) (pss_one (ps_set (i := 9) nd rfl (Or.inl rfl) (C8.pe_mt m_tried hr (by decide) (pv 4) (pa_cons (pe_tup (pa_cons (pe_tup (pa_cons pe_str (pa_cons (pe_ix (k_ixT (K := K)) (pv 7) pe_int (fun _ _ => rfl)) pa_nil))) (pa_cons (pe_op (k_catA (K := K)) (pe_tup (pa_cons pe_str pa_nil)) (pe_slice (k_slT (K := K)) (pv 7) (po_some pe_int) po_none)) pa_nil))) pa_nil)))) pss_nil)
    (pss_cons (ps_asg (C8.pe_mt m_do hr (by decide) (pv 4) (pa_cons (pv 7) pa_nil)) (pg_tup rfl (pgs_cons (pg_name (i := 10) nd rfl (Or.inr rfl)) (pgs_cons (pg_name (i := 11) nd rfl (Or.inl rfl)) pgs_nil))))
    (pss_cons (ps_if (PW.pt (pw_or (pt_not (pt_val (C8.pe_c c_lw_changed_right hr (by decide) rfl (pa_cons (pv 7) (pa_cons (pv 3) (pa_cons (pv 10) (pa_cons (pv 11) pa_nil))))))) (pw_or1 (pt_cmpR (k_notInT (K := K) (hu65_of hr)) (pv 9) (pe_tup (pa_cons pe_non (pa_cons (C8.pe_mt0 m_stand hr (by decide) (pv 4)) pa_nil))) (by with_unfolding_all rfl))))) (pss_one (ps_ret pe_bl)) pss_nil)
    (pss_cons (ps_if (pt_cmpR (k_neD (K := K) (hu64_of hr)) (pe_callTy (k_list (K := K)) rfl T.list bt_list (pa_cons (C8.pe_mt0 m_stand hr (by decide) (pv 4)) pa_nil)) (pe_callB (k_sortP (K := K) (hu65_of hr)) rfl T.sorted bt_sorted (pa_cons (pe_op op_cat (pe_lc (own := [("_law_piece_here", 12)]) (g := (gName 12)) rfl nd (kpi_tup (K := K) (pv 8)) (blkOk_by (N := N_lw_right) (sc := defScope s_lw_right) (by decide +kernel)) (fun _ _ _ _ _ => (pg_name (i := 12) nd rfl (Or.inl rfl))) (fun _ _ _ _ _ => pts_one (pt_cmpR (k_notInT (K := K) (hu65_of hr)) (pv 12) (pv 10) (by with_unfolding_all rfl))) (fun _ _ _ _ _ => (pv 12))) (pe_callTy (k_list (K := K)) rfl T.list bt_list (pa_cons (pv 11) pa_nil))) pa_nil)) (nomark _)) (pss_one (ps_ret pe_bl)) pss_nil)
    (pss_cons (ps_if (PW.pt (pw_or (pt_not (pt_val (pe_callB (k_all (K := K) rfl) rfl T.all bt_all (pa_cons (pe_lc (own := [("_law_piece_here", 12)]) (g := (gName 12)) rfl nd (kpi_tup (K := K) (pv 10)) (blkOk_by (N := N_lw_right) (sc := defScope s_lw_right) (by decide +kernel)) (fun _ _ _ _ _ => (pg_name (i := 12) nd rfl (Or.inl rfl))) (fun _ _ _ _ _ => pts_nil) (fun _ _ _ _ _ => (pe_cmpR (k_inT (K := K) (hu65_of hr)) (pv 12) (pv 8) (by with_unfolding_all rfl)))) pa_nil)))) (pw_or1 (pt_val (pe_callB (k_any (K := K) rfl) rfl T.any bt_any (pa_cons (pe_lc (own := [("_law_piece_here", 12)]) (g := (gName 12)) rfl nd (kpi_tup (K := K) (pv 11)) (blkOk_by (N := N_lw_right) (sc := defScope s_lw_right) (by decide +kernel)) (fun _ _ _ _ _ => (pg_name (i := 12) nd rfl (Or.inl rfl))) (fun _ _ _ _ _ => pts_nil) (fun _ _ _ _ _ => (pe_cmpR (k_inT (K := K) (hu65_of hr)) (pv 12) (pv 8) (by with_unfolding_all rfl)))) pa_nil)))))) (pss_one (ps_ret pe_bl)) pss_nil)
    (pss_one (ps_asg (C8.pe_c c_lw_led hr (by decide) rfl (pa_cons (pv 5) (pa_cons (pv 3) (pa_cons (pv 7) pa_nil)))) (pg_tup rfl (pgs_cons (pg_name (i := 5) nd rfl (Or.inl rfl)) (pgs_cons (pg_name (i := 3) nd rfl (Or.inl rfl)) pgs_nil)))))))))))))
    (pss_one (ps_ret pe_bl))))), ?_⟩
  subst hv
  refine ⟨_, rfl, p, rfl, hp, fun H1 q ao gv ts zs r k1 hp1 hq dg hts l1 l3 hao nao lz2 lz7 hz r3 => ?_⟩
  refine ⟨q, _, rfl, hq, rfl, _, _, rfl, _, _, rfl, _, _, rfl, rfl, ?_⟩
  refine ⟨_, rfl, fun w0 dw nw ndw nwd => ?_⟩
  have k12 : Ex H1 (upd (upd H1 dw (.own w0)) w0 (.ins CW dw [])) := (Ex.one ndw).new (by rw [upd_ne nwd.symm]; exact nw)
  refine ⟨w0, dw, gv, ts, rfl, upd_same, dp_ex k12 _ _ dg, hts, l1, by omega, fun H3 vb kW hxW dvb => ⟨rfl, ?_⟩⟩
  have k13 : Ex H1 H3 := fun a o ha => kW a o (k12 a o ha) fun z => by
    have z' : a = w0 := z
    rw [z', nw] at ha
    cases ha
  have hp3 := hp1.ex k13
  have hpw : w0 ≠ p := (hp1.ne nw).symm
  have exB : Ex (minus H3 p) H3 := fun a o ha => (minus_of ha).2
  have keepB : Kp (fun a => a = p) H3 (minus H3 p) := fun a o ha fx => by
    by_cases c : a = p
    · subst c
      exact absurd (fx rfl) (hp3.fix o ha)
    · exact minus_at c ha
  have hw : WorldAt K CW (minus H3 p) w0 ts := ⟨dw, gv, vb, minus_at hpw hxW, dp_kp keepB _ _ (flat_P ts) (dp_ex k13 _ _ dg), dp_ex (fun a o ha => by
    obtain ⟨n1, h1⟩ := sub_of ha
    exact minus_at (fun z => by rw [z] at n1; exact absurd n1 (by obtain ⟨x1, x2, x3, x4⟩ := hp1.ex k12; rw [x4]; exact fun z => nomatch z)) h1) _ _ dvb, hts, l1, by omega⟩
  have nBp : minus H3 p p = none := by
    unfold minus
    rw [if_pos rfl]
  refine ⟨_, rfl, rfl, rfl, fun fl dl nf ndl ndf => ?_⟩
  have k34 : Ex H3 (upd (upd H3 dl (.own fl)) fl (.ins CF dl [])) := (Ex.one ndl).new (by rw [upd_ne ndf.symm]; exact nf)
  have nBf : minus H3 p fl = none := exB.nn nf
  refine ⟨minus H3 p, fl, dl, w0, r, ts, rfl, upd_same, hw, exB.trans k34, nBf, by omega, fun H5 l kF nl fa => ⟨rfl, ?_⟩⟩
  have k35 : Ex H3 H5 := fun a o ha => kF a o (k34 a o ha) fun z => by
    have z' : a = fl := z
    rw [z', nf] at ha
    cases ha
  have nHf : H fl = none := kp_nn k1 hp1 (k13.nn nf)
  have nHl : H l = none := kp_nn k1 hp1 (k13.nn (k34.nn nl))
  have hpf : p ≠ fl := hp3.ne nf
  have hpl : p ≠ l := (hp3.ex k34).ne nl
  have hao3 := k13 _ _ hao
  have haf : ao ≠ fl := ne_of_none hao3 nf
  have hal : ao ≠ l := ne_of_none (k34 _ _ hao3) nl
  have hap : ao ≠ p := fun z => hp.ne nao z.symm
  refine ⟨by show 0 ≤ sizeLine; exact Nat.zero_le _, fun e0 ne0 => ⟨_, _, rfl, ?_⟩⟩
  have k56 := Ex.one (o := .tup []) ne0
  have k16 := (k13.trans k35).trans k56
  refine ⟨24, rfl, by decide, by decide, ?_⟩
  refine for_it walk_range (fun i σ Hx => ∃ (rv : V) (st : FS) (sts : List FS) (s6 s7 s8 s9 s10 s11 : Option V), σ = [some (.ref p), some gv, some (.ref ao), some (nI st.r), some (.ref fl), some rv, s6, s7, s8, s9, s10, s11, none] ∧ Turn K CF CW (minus H3 p) H Hx p fl l w0 ao ts zs gv rv st sts ∧ sts.length = i)
    ⟨.ref e0, ⟨r, [], []⟩, [], none, none, none, none, none, none, rfl, ⟨k1.trans k16.kp, hp1.ex k16, fa.next k56, k16 _ _ hao, .tup (SqT.of upd_same) .nil, fun z h => (nomatch h), dp_ex k16 _ _ dg⟩, rfl⟩ (fun _ _ _ _ _ => trivial) (fun i z σ Hx H' hi hx yy => ?_) fun σ Hx hx => ?_
  · obtain ⟨rv, st, sts, s6, s7, s8, s9, s10, s11, rfl, t, hn⟩ := hx
    obtain ⟨rfl, _⟩ := yy
    have hzn : zs ≠ [] := fun z => by
      rw [z] at lz2
      simp at lz2
    have hb7 : st.b.length ≤ 7 := by
      have h := len_share (R := fun (x y : Str) => x = y) (F := nms_ st.b) (Ps := zs) t.fa.ok.nd (fun x hx => ⟨x, t.sub x hx, rfl⟩) fun p _ x _ y _ e1 e2 => e1.symm.trans e2
      have e : (nms_ st.b).length = st.b.length := List.length_map _
      omega
    -- the deed
    refine ⟨_, rfl, _, rfl, _, rfl, _, rfl, p, gv, rv, ao, ts, st.b, zs, rfl, t.pu, t.gr, hts, by omega, t.roll, t.own, hzn, lz7, hz, hb7, t.sub, fun Hb av dd kb hpb dav okd fit hput => ?_⟩
    have tb := t.draw kb hpb nBp hpl hap
    obtain ⟨dx, tr, d, vk, vs, hf, _⟩ := id tb.fa.here
    refine ⟨_, rfl, fl, dx, _, rfl, hf, rfl, minus H3 p, fl, l, w0, ts, false, st, sts, rfl, tb.fa, fun va dva => ⟨by show 2 ≤ sizeLine; decide, fun q nq => ?_⟩⟩
    have kq := Ex.one (o := .tup [va, .non]) nq
    refine ⟨q, _, rfl, SqT.of upd_same, rfl, _, _, rfl, _, _, rfl, rfl, ?_⟩
    have tc := tb.ex kq
    have dav1 := dp_ex kq _ _ dav
    have dva1 := dp_ex kq _ _ dva
    obtain ⟨a, word, vs0, rfl, ha, hword⟩ := deed_word dav1
    apply if_both (Pred := fun Hc mv => Turn K CF CW (minus H3 p) H Hc p fl l w0 ao ts zs gv rv st sts ∧ Dp K Hc (.ref a) (encDeed dd) ∧ Dp K Hc va (.tuple (st.F.map encP)) ∧
      (mv = .non ∨ ∃ F2, Dp K Hc mv (.tuple (F2.map encP)) ∧ ∀ F', IsStand ts (reachAfter st.r dd) ((bookAfter st.b dd).map fun x => x.2) F' → F2 = F'))
    · intro rest
      by_cases c : word = "move"
      · obtain ⟨z, Pt, ed⟩ := hword c
        refine ⟨_, rfl, a, _, _, _, rfl, rfl, ha, atI_nat (j := 0) rfl, rfl, true, bT (congrArg V.str c), ?_⟩
        have dm : Dp K _ (.ref a) (encDeed (.move z Pt)) := ed ▸ dav1
        obtain ⟨a', pv, ea, ha', hpv⟩ := tl_pair dm
        injection ea with ea
        rw [← ea] at ha'
        obtain ⟨dx1, tr1, d1, vk1, vs1, hf1, _⟩ := id tc.fa.here
        have fm : z ∈ nms_ st.b := by
          have h := fit
          rw [ed] at h
          exact h
        have om : NameOk z ∧ POk ts Pt := by
          have h := okd
          rw [ed] at h
          exact h
        refine ⟨_, rfl, fl, dx1, _, rfl, hf1, rfl, ?_⟩
        refine ⟨_, rfl, a, _, _, _, rfl, rfl, ha', atI_nat (j := 1) rfl, by show 2 ≤ sizeLine; decide, fun t1 nt1 => ?_⟩
        refine ⟨by show 1 ≤ sizeLine; decide, fun t2 nt2 => ?_⟩
        have kt2 := (Ex.one (o := .tup [.str "strike", .str z]) nt1).new (o := .tup [.str "put"]) nt2
        refine ⟨_, rfl, _, rfl, a, _, rfl, sqT_ex kt2 ha', fun z => absurd z nwhole, fun _ t3 nt3 => ?_⟩
        rw [cut1_3]
        have k3 := Ex.one (o := .tup [.str z, pv]) nt3
        refine ⟨t2, t3, _, _, rfl, rfl, sqT_ex k3 (SqT.of upd_same), SqT.of upd_same, by show 1 + 2 ≤ sizeLine; decide, fun e => (nomatch e), fun _ e => (nomatch e), fun _ _ t4 nt4 => ?_⟩
        refine ⟨by show 2 ≤ sizeLine; decide, fun t5 nt5 => ?_⟩
        have k45 := (Ex.one (o := .tup ([.str "put"] ++ [.str z, pv])) nt4).new (o := .tup [.ref t1, .ref t4]) nt5
        have kall := (kt2.trans k3).trans k45
        have td := tc.ex kall
        have hstr : ∀ Hx : Hp, SqT K Hx t1 [.str "strike", .str z] → Dp K Hx (.ref t1) (encDeed (.strike z)) := fun Hx h => .tup h (.cons (.str _) (.cons (.str _) .nil))
        refine ⟨minus H3 p, fl, l, w0, ts, st, sts, t5, [.ref t1, .ref t4], [.strike z, .put z Pt], rfl, td.fa, SqT.of upd_same, ?_, ?_, ?_, ?_, fun Ht y F2 kt fat hy hs => ?_⟩
        · refine .cons (hstr _ (sqT_ex ((Ex.one nt2).trans (k3.trans k45)) (SqT.of upd_same))) (.cons ?_ .nil)
          exact .tup (sqT_ex (Ex.one nt5) (SqT.of upd_same)) (.cons (.str _) (.cons (.str _) (.cons (dp_ex kall _ _ hpv) .nil)))
        · intro d hd
          rcases List.mem_cons.mp hd with rfl | hd
          · exact om.1
          · rw [List.mem_singleton.mp hd]
            exact om
        · intro j d hd
          match j, hd with
          | 0, hd =>
            cases hd
            exact fm
          | 1, hd =>
            cases hd
            refine ⟨fun h => ?_, Nat.le_trans (List.length_filter_le _ _) (by omega)⟩
            obtain ⟨x, hx, e⟩ := List.mem_map.mp h
            exact of_decide_eq_true (List.mem_filter.mp hx).2 e
          | j + 2, hd => simp at hd
        · show sts.length + 2 ≤ 900
          omega
        · refine rest Ht y ⟨td.step kt fat nHf nHl hpf hpl haf hal, dp_kp kt _ _ (flat_deed dd) (dp_ex kall _ _ dav1), dp_kp kt _ _ (flat_Ps _) (dp_ex kall _ _ dva1), .inr ⟨F2, hy, fun F' hF' => ?_⟩⟩
          rw [ed] at hF'
          exact hs.uniq hts hF' (move_parts t.fa.ok.nd fm)
      · refine ⟨_, rfl, a, _, _, _, rfl, rfl, ha, atI_nat (j := 0) rfl, rfl, false, bF (fun e => c (V.str.inj e)), ?_⟩
        exact rest _ _ ⟨tc, dav1, dva1, .inl rfl⟩
    · intro Hc mv hc
      obtain ⟨tc, dac, dvc, hmv⟩ := hc
      obtain ⟨dx1, tr1, d1, vk1, vs1, hf1, _⟩ := id tc.fa.here
      refine ⟨_, rfl, fl, dx1, _, rfl, hf1, rfl, _, rfl, minus H3 p, fl, l, w0, ts, false, st, sts, .ref a, dd, rfl, tc.fa, dac, fit, okd, by omega, fun Hd F' q2 v1 v2 kd fad hq2 dg1 dc1 => ?_⟩
      refine ⟨q2, _, rfl, hq2, rfl, _, _, rfl, _, _, rfl, rfl, ?_⟩
      have kpd := tc.kp.wide kd nHf nHl
      have pud := tc.pu.keep kd hpf hpl
      have ownd := lst_keep tc.own kd haf hal
      have rolld : Dp K Hd rv (encRoll st.b) := dp_kp kd _ _ (flat_roll _) tc.roll
      have grd : Dp K Hd gv (encTs ts) := dp_kp kd _ _ (flat_P ts) tc.gr
      have dad := dp_kp kd _ _ (flat_deed dd) dac
      have dvd : Dp K Hd va (.tuple (st.F.map encP)) := dp_kp kd _ _ (flat_Ps _) dvc
      have lF := tc.fa.flen
      have lF' : F'.length ≤ 100 := fad.flen
      have sF : IsStand ts st.r (st.b.map fun x => x.2) st.F := tc.fa.ok.stand
      have sF' : IsStand ts (reachAfter st.r dd) ((bookAfter st.b dd).map fun x => x.2) F' := fad.ok.stand
      obtain ⟨Gs, eGs⟩ : ∃ Gs, Gs = st.F.filter fun P => !F'.contains P := ⟨_, rfl⟩
      obtain ⟨Cs, eCs⟩ : ∃ Cs, Cs = F'.filter fun P => !st.F.contains P := ⟨_, rfl⟩
      have sG : Shape ts.length Gs := eGs ▸ shape_F hts lF sF.fam.1
      have sC : Shape ts.length Cs := eCs ▸ shape_F hts lF' sF'.fam.1
      have chok := turn_ok hts tc.fa.ok.nd fit sF sF'
      have chl := change_law sF sF'
      rw [← eGs] at dg1 chok chl
      rw [← eCs] at dc1 chok chl
      have hmd : ∃ d, Dp K Hd mv d ∧ SeqAt.shaped d = true ∧ ([PyData.none, .tuple (F'.map encP)].any fun z => PyData.eqv z d) = true := by
        rcases hmv with rfl | ⟨F2, hy, h2⟩
        · exact ⟨.none, .non, by decide, by simp [PyData.eqv]⟩
        · have e := h2 F' sF'
          subst e
          exact ⟨.tuple (F2.map encP), dp_kp kd _ _ (flat_Ps _) hy, shaped_F _, by simp [eqv_F]⟩
      obtain ⟨dm, hdm, shm, hany⟩ := hmd
      obtain ⟨ga, gx, rfl, hga, dga⟩ := dp_T dg1
      obtain ⟨ca, cx, rfl, hca, dca⟩ := dp_T dc1
      obtain ⟨aa, ax, rfl, haa, daa⟩ := dp_T dvd
      have lgx : gx.length = Gs.length := by rw [dpAll_length dga, List.length_map]
      have lcx : cx.length = Cs.length := by rw [dpAll_length dca, List.length_map]
      have lax : ax.length = st.F.length := by rw [dpAll_length daa, List.length_map]
      have lG := sG.1
      have lC := sC.1
      -- changed_right
      refine ⟨_, rfl, _, rfl, _, rfl, _, rfl, .ref a, .ref ga, .ref ca, st.r, ts.length, dd, Gs, Cs, rfl, dad, dg1, dc1, by omega, sG, sC, chok, fun He ke => ⟨true, rfl, ?_⟩⟩
      obtain ⟨dx2, tr2, d2, vk2, vs2, hf2, _⟩ := id fad.here
      refine ⟨_, rfl, _, rfl, fl, dx2, _, rfl, ke _ _ hf2, rfl, minus H3 p, fl, l, w0, ts, false, _, _, rfl, fad.next ke, fun vb dvb => ⟨by show 2 ≤ sizeLine; decide, fun q3 nq3 => ?_⟩⟩
      have k3 := Ex.one (o := .tup [.non, vb]) nq3
      refine ⟨dm, _, dp_ex (ke.trans k3) _ _ hdm, .tup (SqT.of upd_same) (.cons .non (.cons (dp_ex k3 _ _ dvb) .nil)), shm, shaped_NF F', false, ?_, ?_⟩
      · show V.bl (!([PyData.none, .tuple (F'.map encP)].any fun z => PyData.eqv z dm)) = V.bl false
        rw [hany]
        rfl
      have ke3 := ke.trans k3
      -- the change
      refine ⟨_, rfl, fl, dx2, _, rfl, ke3 _ _ hf2, rfl, minus H3 p, fl, l, w0, ts, false, _, _, rfl, fad.next ke3, fun vc dvc2 => ?_⟩
      obtain ⟨a2, x2, rfl, ha2, da2⟩ := dp_T dvc2
      refine ⟨a2, x2, rfl, .inr ha2, fun p4 n4 => ?_⟩
      have k4 := ke3.trans (Ex.one (o := .lst x2) n4)
      have hp4 := upd_same (H := upd He q3 (.tup [.non, vb])) (a := p4) (o := .lst x2)
      refine ⟨_, rfl, aa, rfl, ⟨_, sqT_ex k4 haa⟩, fun D5 hD5 => ?_⟩
      refine lcE (walk_tup (xs := ax)) (fun i => (st.F[i]?).bind fun Q => if (!Gs.contains Q) = true then some Q else none) (fun Q v Hx => Dp K Hx v (encP Q)) (by omega) hD5 (fun Hx k => sqT_ex (k4.trans k) haa) (fun Q v Hx Hy kk h => dp_kp (S := fun b => b = D5) (fun b o hb fx => kk b o hb fx) _ _ (flat_P _) h) (fun i z Hx H' QF QT hi k hys yy q1 q2 => ?_) fun H5 ys k5 hys pr => ?_
      · obtain ⟨rfl, e⟩ := yy
        obtain ⟨Qp, hQp, dQ⟩ := dpAll_P daa e
        rw [hQp] at q1 q2
        have k := k4.trans k
        by_cases c : (!Gs.contains Qp) = true
        · refine ⟨rfl, _, rfl, _, rfl, encP Qp, Gs.map encP, dp_ex k _ _ dQ, dp_ex k _ _ dg1, shaped_P _, shaped_F _, true, by show V.bl (!((Gs.map encP).any fun z => PyData.eqv z (encP Qp))) = _; rw [any_P, c], _, rfl, q2 Qp ?_ _ _ Ex.refl (dp_ex k _ _ dQ)⟩
          simp only [Option.bind]
          rw [if_pos c]
        · refine ⟨rfl, _, rfl, _, rfl, encP Qp, Gs.map encP, dp_ex k _ _ dQ, dp_ex k _ _ dg1, shaped_P _, shaped_F _, false, by show V.bl (!((Gs.map encP).any fun z => PyData.eqv z (encP Qp))) = _; rw [any_P, Bool.eq_false_iff.mpr c], q1 ?_ _ Ex.refl⟩
          simp only [Option.bind]
          rw [if_neg c]
      rw [lax, filterMap_range] at pr
      have dys := dpAll_pairedP pr
      have k45 := k4.trans k5
      refine ⟨_, rfl, ca, cx, rfl, .inr (sqT_ex k45 hca), fun p6 n6 => ?_⟩
      have k6 := Ex.one (o := .lst cx) n6
      refine ⟨D5, p6, _, _, rfl, rfl, k6 _ _ hys, upd_same, ?_, fun p7 n7 => ?_⟩
      · have ly : ys.length = (st.F.filter fun P => !Gs.contains P).length := by rw [dpAll_length dys, List.length_map]
        have := List.length_filter_le (fun P => !Gs.contains P) st.F
        exact Nat.le_of_lt (small1000 (by omega))
      have k7 := k6.new (o := .lst (ys ++ cx)) n7
      have k47 := k45.trans k7
      refine ⟨p7, _, (st.F.filter fun P => !Gs.contains P) ++ Cs, rfl, SqL.of upd_same, ?_, fun Pt hPt => ?_, fun p8 ws n8 dws => ?_⟩
      · rw [List.map_append]
        exact dpAll_append (dpAll_ex k7 _ _ dys) (dpAll_ex k47 _ _ dca)
      · rcases List.mem_append.mp hPt with h | h
        · exact (sF.fam.1 Pt (List.mem_filter.mp h).1).ne l1
        · rw [eCs] at h
          exact (sF'.fam.1 Pt (List.mem_filter.mp h).1).ne l1
      rw [chl] at dws
      have k8 := k7.new (o := .lst ws) n8
      have k48 := k45.trans k8
      refine ⟨.list (F'.map encP), .list (F'.map encP), .lst (SqL.of ((k5.trans k8) _ _ hp4)) (dpAll_ex (((Ex.one n4).trans k5).trans k8) _ _ da2), .lst (SqL.of upd_same) (dpAll_ex (Ex.one n8) _ _ dws), shaped_FL _, shaped_FL _, false, by rw [eqv_FL]; rfl, ?_⟩
      -- gone stood, come did not
      have mG : ∀ Qp ∈ Gs, st.F.contains Qp = true := fun Qp h => by
        rw [eGs] at h
        exact List.contains_iff_mem.mpr (List.mem_filter.mp h).1
      have mC : ∀ Qp ∈ Cs, st.F.contains Qp = false := fun Qp h => by
        rw [eCs] at h
        have := (List.mem_filter.mp h).2
        revert this
        cases st.F.contains Qp <;> simp
      refine ⟨_, rfl, ga, rfl, ⟨_, sqT_ex k48 hga⟩, fun D9 hD9 => ?_⟩
      refine lcE (walk_tup (xs := gx)) (fun i => Gs[i]?) (fun _ v _ => v = .bl true) (by omega) hD9 (fun Hx k => sqT_ex (k48.trans k) hga) (fun _ _ _ _ _ h => h) (fun i z Hx H' QF QT hi k hys yy q1 q2 => ?_) fun H9 y9 k9 hys9 pr => ?_
      · obtain ⟨rfl, e⟩ := yy
        obtain ⟨Qp, hQp, dQ⟩ := dpAll_P dga e
        have k := k48.trans k
        refine ⟨rfl, _, rfl, _, rfl, encP Qp, st.F.map encP, dp_ex k _ _ dQ, .tup (sqT_ex k haa) (dpAll_ex k _ _ daa), shaped_P _, shaped_F _, q2 Qp hQp _ _ Ex.refl ?_⟩
        show V.bl ((st.F.map encP).any fun z => PyData.eqv z (encP Qp)) = V.bl true
        rw [any_P, mG Qp (List.mem_of_getElem? hQp)]
      have k49 := k48.trans k9
      refine ⟨D9, _, rfl, SqL.of (by rw [← paired_all_true (Hh := H9) pr]; exact hys9), true, by rw [all_rep], ?_⟩
      refine ⟨_, rfl, ca, rfl, ⟨_, sqT_ex k49 hca⟩, fun D10 hD10 => ?_⟩
      refine lcE (walk_tup (xs := cx)) (fun i => Cs[i]?) (fun _ v _ => v = .bl false) (by omega) hD10 (fun Hx k => sqT_ex (k49.trans k) hca) (fun _ _ _ _ _ h => h) (fun i z Hx H' QF QT hi k hys yy q1 q2 => ?_) fun H10 y10 k10 hys10 pr => ?_
      · obtain ⟨rfl, e⟩ := yy
        obtain ⟨Qp, hQp, dQ⟩ := dpAll_P dca e
        have k := k49.trans k
        refine ⟨rfl, _, rfl, _, rfl, encP Qp, st.F.map encP, dp_ex k _ _ dQ, .tup (sqT_ex k haa) (dpAll_ex k _ _ daa), shaped_P _, shaped_F _, q2 Qp hQp _ _ Ex.refl ?_⟩
        show V.bl ((st.F.map encP).any fun z => PyData.eqv z (encP Qp)) = V.bl false
        rw [any_P, mC Qp (List.mem_of_getElem? hQp)]
      rw [lcx, List.filterMap_getElem?_range_length] at pr
      have ey := paired_eq (Hh := H10) (fun _ => V.bl false) pr
      have ey2 : y10 = (Cs.map fun _ => false).map V.bl := by rw [ey, List.map_map]; rfl
      subst ey2
      have kZ := k49.trans k10
      refine ⟨D10, _, rfl, SqL.of hys10, false, ?_, ?_⟩
      · have e : (Cs.map fun _ => false).any id = false := by
          rw [List.any_eq_false]
          intro x hx
          obtain ⟨_, _, rfl⟩ := List.mem_map.mp hx
          exact Bool.false_ne_true
        rw [e]
      -- led
      refine ⟨_, rfl, _, rfl, _, rfl, rv, .ref a, st.r, st.b, dd, rfl, dp_ex kZ _ _ rolld, dp_ex kZ _ _ dad, by omega, fun HL qL yL kL hqL dyL => ?_⟩
      refine ⟨qL, _, rfl, hqL, rfl, _, _, rfl, _, _, rfl, rfl, ?_⟩
      have kLL := kZ.trans kL
      exact ⟨yL, ⟨reachAfter st.r dd, bookAfter st.b dd, F'⟩, sts ++ [st], _, _, _, _, _, _, rfl, ⟨kpd.trans kLL.kp, pud.ex kLL, fad.next kLL, kLL _ _ ownd, dyL, sub_after tc.sub hput, dp_ex kLL _ _ grd⟩, by rw [List.length_append, hn]; rfl⟩
  · obtain ⟨rv, st, sts, s6, s7, s8, s9, s10, s11, rfl, t, hn⟩ := hx
    exact hQ Hx t.kp
end
end J

set_option Elab.async false
set_option linter.all false
set_option maxRecDepth 100000
set_option maxHeartbeats 8000000
/-! KC: law. -/
namespace J
open PySem PySem.Spec PyProof.Rows L2
section
variable {P : Program} {w : World} {K : PySem.W.Frag} {mg : Str → Option Value} {base : Heap} {f : Addr} {fd : FuncData}
abbrev N_law : List Str := ["_law_script", "_law_k"]
theorem sc_law : FnScope N_law ["_law_script"] (defScope s_law) := C8.fnScope_by (by decide +kernel)
def spLaw (K : PySem.W.Frag) : Sp := fun vs H Q _ => ∃ (a : Addr) (ns : List Int), vs = [.ref a] ∧ SqL K H a (ns.map V.int) ∧ ∀ H', Q (.bl true) H'
theorem kp_fresh {H H1 H' : Hp} {p : Addr} (k : Ex H H1) (n : H p = none) (h : Kp (fun a => a = p) H1 H') : Ex H H' := fun a o ha => h a o (k a o ha) fun z => by
  have z' : a = p := z
  rw [z', n] at ha
  cases ha
theorem ok_law (T : Txt mg) (F : FnP K "law" s_law f fd) (g : mg "law" = some (.ref f)) (c_lw_cell : Cal P w K mg base 1 "_law_cell" (spCell K)) (c_lw_purse : Cal P w K mg base 1 "_law_purse" spPurse) (c_lw_right : Cal P w K mg base 9 "_law_right" spRight) : FnOk P w K mg base L2.CX0 10 f fd ["_law_script"] (spLaw K) := by
  have nd := sc_law.nd
  refine fnOk_of F sc_law (fun vs H Q E ⟨_, _, h, _⟩ => by rw [h]; rfl) fun cdv A outer s H vs Q E hcd hr ⟨a, ns, hv, ha, hQ⟩ => ⟨_, (pss_one (ps_ret (pe_callB (k_all (K := K) rfl) rfl T.all bt_all (pa_cons (pe_lc (own := [("_law_k", 1)]) (g := (gName 1)) rfl nd (pi_range1 rfl T.range (pa_cons (pe_callB (call_max2 rfl) rfl T.max bt_max (pa_cons pe_int (pa_cons (pe_callB (call_min2 rfl) rfl T.min bt_min (pa_cons (pe_callB (k_len (K := K)) rfl T.len bt_len (pa_cons (pv 0) pa_nil)) (pa_cons pe_int pa_nil))) pa_nil))) pa_nil)) (blkOk_by (N := N_law) (sc := defScope s_law) (by decide +kernel)) (fun _ _ _ _ _ => (pg_name (i := 1) nd rfl (Or.inl rfl))) (fun _ _ _ _ _ => pts_nil) (fun _ _ _ _ _ => (C8.pe_c c_lw_right hr (by decide) rfl (pa_cons (C8.pe_c c_lw_purse hr (by decide) rfl (pa_cons (C8.pe_c c_lw_cell hr (by decide) rfl (pa_cons (pv 0) (pa_cons (pv 1) pa_nil))) pa_nil)) pa_nil)))) pa_nil)))), ?_⟩
  subst hv
  refine ⟨_, rfl, a, _, rfl, .inl ha, _, _, rfl, _, _, rfl, _, rfl, ?_⟩
  rw [List.length_map]
  have hJ : 2 ≤ (if (if (5 : Int) < (ns.length : Int) then (5 : Int) else (ns.length : Int)) > 2 then (if (5 : Int) < (ns.length : Int) then (5 : Int) else (ns.length : Int)) else 2) ∧ (if (if (5 : Int) < (ns.length : Int) then (5 : Int) else (ns.length : Int)) > 2 then (if (5 : Int) < (ns.length : Int) then (5 : Int) else (ns.length : Int)) else 2) ≤ 5 := by
    split <;> split <;> omega
  obtain ⟨J, eJ⟩ : ∃ J : Int, J = (if (if (5 : Int) < (ns.length : Int) then (5 : Int) else (ns.length : Int)) > 2 then (if (5 : Int) < (ns.length : Int) then (5 : Int) else (ns.length : Int)) else 2) := ⟨_, rfl⟩
  rw [← eJ] at hJ
  suffices h : -(2 ^ 62) ≤ J ∧ J < 2 ^ 62 ∧ ∀ D, H D = none → _ by
    rw [eJ] at h
    exact h
  refine ⟨by omega, by omega, fun D hD => ?_⟩
  refine lcE walk_range (fun i => some ()) (fun _ v _ => v = .bl true) (by omega) hD (fun _ _ => trivial) (fun _ _ _ _ _ h => h) (fun i z H2 H' QF QT hi k hys yy q1 q2 => ?_) fun H2 ys k hys pr => ?_
  · obtain ⟨rfl, ez⟩ := yy
    replace ez : z = nI i := ez.trans (congrArg V.int (Int.zero_add _))
    subst ez
    exact ⟨rfl, _, rfl, _, rfl, a, i, ns, rfl, sqL_ex k ha, by omega, fun H3 c k3 => ⟨c, rfl, fun H4 p k4 np hp => ⟨p, rfl, hp, fun H5 k5 => q2 () rfl _ _ (k3.trans (kp_fresh k4 np k5)) rfl⟩⟩⟩
  · refine ⟨D, _, rfl, SqL.of (by rw [← paired_all_true (Hh := H2) pr]; exact hys), ?_⟩
    rw [all_rep]
    exact hQ H2
end
end J

set_option Elab.async false
set_option linter.all false
set_option maxRecDepth 100000
set_option maxHeartbeats 0
/-! JEnd: the facts of the head, every promise, the law. Printed by genend.py. -/
namespace J
open PySem PySem.Spec PyProof.Rows L2
theorem ba2 {a b : Bool} (h : (a && b) = true) : a = true ∧ b = true := by
  cases a
  · cases h
  · exact ⟨rfl, h⟩
theorem tupAtB_ok {K : PySem.W.Frag} {a : Addr} {vs : List He.Dv} (h : tupAtB K a vs = true) : ∀ H, SqT K H a (vs.map (He.Dv.v K)) := fun H => by
  unfold tupAtB at h
  split at h
  · rename_i c od its n sl e
    obtain ⟨h1, h2⟩ := ba2 h
    obtain ⟨h2, h3⟩ := ba2 h2
    exact .inr ⟨_, its, n, e, congrArg Value.type (of_decide_eq_true h1), rfl, of_decide_eq_true h2, He.relAll_ok h3⟩
  · cases h
theorem fit_ok {K : PySem.W.Frag} {k : Str} {kvs : List (Str × He.Dv)} (h : He.valsB K (He.ga K "FITS") kvs = true) (m : (k, He.Dv.adr (fitAt k)) ∈ kvs) : PySem.W.nsIn K (He.ga K "FITS") k = some (some (.ref (fitAt k K))) := by
  obtain ⟨u, h1, h2⟩ := He.valsB_ok h m
  rw [h1]
  exact congrArg (fun z => some (some z)) h2
theorem insX_ok {K : PySem.W.Frag} {C : Addr} (c : Cls K C) (h : insX K C = true) : C8.InsC K C := by
  unfold insX at h
  obtain ⟨h1, h⟩ := ba2 h
  obtain ⟨h2, h⟩ := ba2 h
  obtain ⟨h3, h⟩ := ba2 h
  obtain ⟨h4, h5⟩ := ba2 h
  exact ⟨c, He.eqO_ok h1, He.eqO_ok h2, of_decide_eq_true h3, of_decide_eq_true h4, of_decide_eq_true h5⟩
theorem facts {P : Program} {w : World} {K : PySem.W.Frag} {h : Heap} {mg : Str → Option Value} {f : Addr} (X : K.In h) (G : h.Ns mainGlobals mg) (hfa : mg ("law" : Str) = some (.ref f)) (c : He.SaysX fa fn tabs [] ex w h K) :
    ∃ fd : FuncData, (∀ (s : Shared) (v : Value), BindsTo s fd ⟨[v], []⟩ [("_law_script", v)]) ∧ ∀ base : Heap, K.In base → base.Ns mainGlobals mg → FnOk P w K mg base CX0 10 f fd ["_law_script"] (spLaw K) := by
  obtain ⟨fd_is_whole, F_is_whole⟩ := c.t.d.def_ 0 (d := d_is_whole) rfl
  obtain ⟨fd_is_within, F_is_within⟩ := c.t.d.def_ 1 (d := d_is_within) rfl
  obtain ⟨fd_is_tree, F_is_tree⟩ := c.t.d.def_ 2 (d := d_is_tree) rfl
  obtain ⟨fd_downward, F_downward⟩ := c.t.d.def_ 3 (d := d_downward) rfl
  obtain ⟨fd_steps_between, F_steps_between⟩ := c.t.d.def_ 4 (d := d_steps_between) rfl
  obtain ⟨fd_gaps, F_gaps⟩ := c.t.d.def_ 5 (d := d_gaps) rfl
  obtain ⟨fd_hangs_together, F_hangs_together⟩ := c.t.d.def_ 6 (d := d_hangs_together) rfl
  obtain ⟨fd_branch_around, F_branch_around⟩ := c.t.d.def_ 7 (d := d_branch_around) rfl
  obtain ⟨fd_least_gap, F_least_gap⟩ := c.t.d.def_ 8 (d := d_least_gap) rfl
  obtain ⟨fd_check_world, F_check_world⟩ := c.t.d.def_ 9 (d := d_check_world) rfl
  obtain ⟨fd_makes_part, F_makes_part⟩ := c.t.d.def_ 10 (d := d_makes_part) rfl
  obtain ⟨fd_is_part, F_is_part⟩ := c.t.d.def_ 11 (d := d_is_part) rfl
  obtain ⟨fd_part_in, F_part_in⟩ := c.t.d.def_ 12 (d := d_part_in) rfl
  obtain ⟨fd_part_far, F_part_far⟩ := c.t.d.def_ 13 (d := d_part_far) rfl
  obtain ⟨fd_part_hull, F_part_hull⟩ := c.t.d.def_ 14 (d := d_part_hull) rfl
  obtain ⟨fd_is_name, F_is_name⟩ := c.t.d.def_ 15 (d := d_is_name) rfl
  obtain ⟨fd_check_reach, F_check_reach⟩ := c.t.d.def_ 16 (d := d_check_reach) rfl
  obtain ⟨fd_closed, F_closed⟩ := c.t.d.def_ 17 (d := d_closed) rfl
  obtain ⟨fd_name_fits, F_name_fits⟩ := c.t.d.def_ 18 (d := d_name_fits) rfl
  obtain ⟨fd_reach_fits, F_reach_fits⟩ := c.t.d.def_ 19 (d := d_reach_fits) rfl
  obtain ⟨fd_is_deed, F_is_deed⟩ := c.t.d.def_ 20 (d := d_is_deed) rfl
  obtain ⟨fd_put_in, F_put_in⟩ := c.t.d.def_ 21 (d := d_put_in) rfl
  obtain ⟨fd_behind, F_behind⟩ := c.t.d.def_ 22 (d := d_behind) rfl
  obtain ⟨fd_parted, F_parted⟩ := c.t.d.def_ 23 (d := d_parted) rfl
  obtain ⟨fd_lw_cell, F_lw_cell⟩ := c.t.d.def_ 24 (d := d_lw_cell) rfl
  obtain ⟨fd_lw_purse, F_lw_purse⟩ := c.t.d.def_ 25 (d := d_lw_purse) rfl
  obtain ⟨fd_lw_pick, F_lw_pick⟩ := c.t.d.def_ 26 (d := d_lw_pick) rfl
  obtain ⟨fd_lw_wood, F_lw_wood⟩ := c.t.d.def_ 27 (d := d_lw_wood) rfl
  obtain ⟨fd_lw_grove, F_lw_grove⟩ := c.t.d.def_ 28 (d := d_lw_grove) rfl
  obtain ⟨fd_lw_gaps, F_lw_gaps⟩ := c.t.d.def_ 29 (d := d_lw_gaps) rfl
  obtain ⟨fd_lw_between_two, F_lw_between_two⟩ := c.t.d.def_ 30 (d := d_lw_between_two) rfl
  obtain ⟨fd_lw_limb, F_lw_limb⟩ := c.t.d.def_ 31 (d := d_lw_limb) rfl
  obtain ⟨fd_lw_inside, F_lw_inside⟩ := c.t.d.def_ 32 (d := d_lw_inside) rfl
  obtain ⟨fd_lw_piece, F_lw_piece⟩ := c.t.d.def_ 33 (d := d_lw_piece) rfl
  obtain ⟨fd_lw_point, F_lw_point⟩ := c.t.d.def_ 34 (d := d_lw_point) rfl
  obtain ⟨fd_lw_alone, F_lw_alone⟩ := c.t.d.def_ 35 (d := d_lw_alone) rfl
  obtain ⟨fd_lw_words, F_lw_words⟩ := c.t.d.def_ 36 (d := d_lw_words) rfl
  obtain ⟨fd_lw_some_piece, F_lw_some_piece⟩ := c.t.d.def_ 37 (d := d_lw_some_piece) rfl
  obtain ⟨fd_lw_less, F_lw_less⟩ := c.t.d.def_ 38 (d := d_lw_less) rfl
  obtain ⟨fd_lw_deed, F_lw_deed⟩ := c.t.d.def_ 39 (d := d_lw_deed) rfl
  obtain ⟨fd_lw_led, F_lw_led⟩ := c.t.d.def_ 40 (d := d_lw_led) rfl
  obtain ⟨fd_lw_start, F_lw_start⟩ := c.t.d.def_ 41 (d := d_lw_start) rfl
  obtain ⟨fd_lw_each_in, F_lw_each_in⟩ := c.t.d.def_ 42 (d := d_lw_each_in) rfl
  obtain ⟨fd_lw_changed_right, F_lw_changed_right⟩ := c.t.d.def_ 43 (d := d_lw_changed_right) rfl
  obtain ⟨fd_lw_right, F_lw_right⟩ := c.t.d.def_ 44 (d := d_lw_right) rfl
  obtain ⟨fd_law, F_law⟩ := c.t.d.def_ 45 (d := d_law) rfl
  obtain ⟨fd_World_init, F_World_init⟩ := c.t.d.def_ 46 (d := d_World_init) rfl
  obtain ⟨fd_Field_init, F_Field_init⟩ := c.t.d.def_ 47 (d := d_Field_init) rfl
  obtain ⟨fd_Field_stand, F_Field_stand⟩ := c.t.d.def_ 48 (d := d_Field_stand) rfl
  obtain ⟨fd_Field_step, F_Field_step⟩ := c.t.d.def_ 49 (d := d_Field_step) rfl
  obtain ⟨fd_Field_do, F_Field_do⟩ := c.t.d.def_ 50 (d := d_Field_do) rfl
  obtain ⟨fd_Field_back, F_Field_back⟩ := c.t.d.def_ 51 (d := d_Field_back) rfl
  obtain ⟨fd_Field_back_to, F_Field_back_to⟩ := c.t.d.def_ 52 (d := d_Field_back_to) rfl
  obtain ⟨fd_Field_run, F_Field_run⟩ := c.t.d.def_ 53 (d := d_Field_run) rfl
  obtain ⟨fd_Field_tried, F_Field_tried⟩ := c.t.d.def_ 54 (d := d_Field_tried) rfl
  have g_is_whole := He.glo_ok X G (c.t.d.fact 0 (f := .glo "is_whole") rfl)
  have g_is_within := He.glo_ok X G (c.t.d.fact 1 (f := .glo "is_within") rfl)
  have g_is_tree := He.glo_ok X G (c.t.d.fact 2 (f := .glo "is_tree") rfl)
  have g_downward := He.glo_ok X G (c.t.d.fact 3 (f := .glo "downward") rfl)
  have g_steps_between := He.glo_ok X G (c.t.d.fact 4 (f := .glo "steps_between") rfl)
  have g_gaps := He.glo_ok X G (c.t.d.fact 5 (f := .glo "gaps") rfl)
  have g_hangs_together := He.glo_ok X G (c.t.d.fact 6 (f := .glo "hangs_together") rfl)
  have g_branch_around := He.glo_ok X G (c.t.d.fact 7 (f := .glo "branch_around") rfl)
  have g_least_gap := He.glo_ok X G (c.t.d.fact 8 (f := .glo "least_gap") rfl)
  have g_check_world := He.glo_ok X G (c.t.d.fact 9 (f := .glo "check_world") rfl)
  have g_makes_part := He.glo_ok X G (c.t.d.fact 10 (f := .glo "makes_part") rfl)
  have g_is_part := He.glo_ok X G (c.t.d.fact 11 (f := .glo "is_part") rfl)
  have g_part_in := He.glo_ok X G (c.t.d.fact 12 (f := .glo "part_in") rfl)
  have g_part_far := He.glo_ok X G (c.t.d.fact 13 (f := .glo "part_far") rfl)
  have g_part_hull := He.glo_ok X G (c.t.d.fact 14 (f := .glo "part_hull") rfl)
  have g_is_name := He.glo_ok X G (c.t.d.fact 15 (f := .glo "is_name") rfl)
  have g_check_reach := He.glo_ok X G (c.t.d.fact 16 (f := .glo "check_reach") rfl)
  have g_closed := He.glo_ok X G (c.t.d.fact 17 (f := .glo "closed") rfl)
  have g_name_fits := He.glo_ok X G (c.t.d.fact 18 (f := .glo "name_fits") rfl)
  have g_reach_fits := He.glo_ok X G (c.t.d.fact 19 (f := .glo "reach_fits") rfl)
  have g_is_deed := He.glo_ok X G (c.t.d.fact 20 (f := .glo "is_deed") rfl)
  have g_put_in := He.glo_ok X G (c.t.d.fact 21 (f := .glo "put_in") rfl)
  have g_behind := He.glo_ok X G (c.t.d.fact 22 (f := .glo "behind") rfl)
  have g_parted := He.glo_ok X G (c.t.d.fact 23 (f := .glo "parted") rfl)
  have g_lw_cell := He.glo_ok X G (c.t.d.fact 24 (f := .glo "_law_cell") rfl)
  have g_lw_purse := He.glo_ok X G (c.t.d.fact 25 (f := .glo "_law_purse") rfl)
  have g_lw_pick := He.glo_ok X G (c.t.d.fact 26 (f := .glo "_law_pick") rfl)
  have g_lw_wood := He.glo_ok X G (c.t.d.fact 27 (f := .glo "_law_wood") rfl)
  have g_lw_grove := He.glo_ok X G (c.t.d.fact 28 (f := .glo "_law_grove") rfl)
  have g_lw_gaps := He.glo_ok X G (c.t.d.fact 29 (f := .glo "_law_gaps") rfl)
  have g_lw_between_two := He.glo_ok X G (c.t.d.fact 30 (f := .glo "_law_between_two") rfl)
  have g_lw_limb := He.glo_ok X G (c.t.d.fact 31 (f := .glo "_law_limb") rfl)
  have g_lw_inside := He.glo_ok X G (c.t.d.fact 32 (f := .glo "_law_inside") rfl)
  have g_lw_piece := He.glo_ok X G (c.t.d.fact 33 (f := .glo "_law_piece") rfl)
  have g_lw_point := He.glo_ok X G (c.t.d.fact 34 (f := .glo "_law_point") rfl)
  have g_lw_alone := He.glo_ok X G (c.t.d.fact 35 (f := .glo "_law_alone") rfl)
  have g_lw_words := He.glo_ok X G (c.t.d.fact 36 (f := .glo "_law_words") rfl)
  have g_lw_some_piece := He.glo_ok X G (c.t.d.fact 37 (f := .glo "_law_some_piece") rfl)
  have g_lw_less := He.glo_ok X G (c.t.d.fact 38 (f := .glo "_law_less") rfl)
  have g_lw_deed := He.glo_ok X G (c.t.d.fact 39 (f := .glo "_law_deed") rfl)
  have g_lw_led := He.glo_ok X G (c.t.d.fact 40 (f := .glo "_law_led") rfl)
  have g_lw_start := He.glo_ok X G (c.t.d.fact 41 (f := .glo "_law_start") rfl)
  have g_lw_each_in := He.glo_ok X G (c.t.d.fact 42 (f := .glo "_law_each_in") rfl)
  have g_lw_changed_right := He.glo_ok X G (c.t.d.fact 43 (f := .glo "_law_changed_right") rfl)
  have g_lw_right := He.glo_ok X G (c.t.d.fact 44 (f := .glo "_law_right") rfl)
  have g_law := He.glo_ok X G (c.t.d.fact 45 (f := .glo "law") rfl)
  have g_World := He.glo_ok X G (c.t.d.fact 46 (f := .glo "World") rfl)
  have g_Field := He.glo_ok X G (c.t.d.fact 47 (f := .glo "Field") rfl)
  have g_FITS := He.glo_ok X G (c.t.d.fact 48 (f := .glo "FITS") rfl)
  have T : Txt mg := ⟨He.free_ok X G (c.t.d.fact 49 (f := .free "isinstance") rfl), He.free_ok X G (c.t.d.fact 50 (f := .free "int") rfl), He.free_ok X G (c.t.d.fact 51 (f := .free "bool") rfl), He.free_ok X G (c.t.d.fact 52 (f := .free "str") rfl), He.free_ok X G (c.t.d.fact 53 (f := .free "tuple") rfl), He.free_ok X G (c.t.d.fact 54 (f := .free "len") rfl), He.free_ok X G (c.t.d.fact 55 (f := .free "all") rfl), He.free_ok X G (c.t.d.fact 56 (f := .free "enumerate") rfl), He.free_ok X G (c.t.d.fact 57 (f := .free "list") rfl), He.free_ok X G (c.t.d.fact 58 (f := .free "range") rfl), He.free_ok X G (c.t.d.fact 59 (f := .free "sorted") rfl), He.free_ok X G (c.t.d.fact 60 (f := .free "set") rfl), He.free_ok X G (c.t.d.fact 61 (f := .free "min") rfl), He.free_ok X G (c.t.d.fact 62 (f := .free "max") rfl), He.free_ok X G (c.t.d.fact 64 (f := .free "any") rfl), He.free_ok X G (c.t.d.fact 65 (f := .free "zip") rfl), He.free_ok X G (c.t.d.fact 66 (f := .free "dict") rfl), (let ⟨t, e⟩ := He.int_ok X G (c.t.d.fact 67 (f := .int "REACH" 1) rfl); ⟨_, e, ⟨t, rfl⟩⟩), (let ⟨t, e⟩ := He.int_ok X G (c.t.d.fact 68 (f := .int "MOST_REACH" 48) rfl); ⟨_, e, ⟨t, rfl⟩⟩), (let ⟨t, e⟩ := He.int_ok X G (c.t.d.fact 69 (f := .int "MOST_PLACES" 12) rfl); ⟨_, e, ⟨t, rfl⟩⟩), (let ⟨t, e⟩ := He.int_ok X G (c.t.d.fact 70 (f := .int "MOST_TREES" 4) rfl); ⟨_, e, ⟨t, rfl⟩⟩), (let ⟨t, e⟩ := He.int_ok X G (c.t.d.fact 71 (f := .int "MOST_NAMES" 24) rfl); ⟨_, e, ⟨t, rfl⟩⟩), (let ⟨t, e⟩ := He.int_ok X G (c.t.d.fact 72 (f := .int "MOST_SIGNS" 8) rfl); ⟨_, e, ⟨t, rfl⟩⟩), (let ⟨t, e⟩ := He.str_ok X G (c.t.d.fact 73 (f := .str "SIGNS" "abcdefghijklmnopqrstuvwxyz") rfl); ⟨_, e, ⟨t, rfl⟩⟩)⟩
  have xm := c.more
  unfold ex at xm
  obtain ⟨x12, x3⟩ := ba2 xm
  obtain ⟨x1, x2⟩ := ba2 x12
  obtain ⟨t1, x3⟩ := ba2 x3
  obtain ⟨t2, x3⟩ := ba2 x3
  obtain ⟨t3, t4⟩ := ba2 x3
  have W : TW K mg (He.ga K "World") := ⟨insX_ok (He.cls_ok (c.t.d.fact 74 (f := .cls "World") rfl)) x1, He.noat_ok (c.t.d.fact 87 (f := .noat "World" "trees") rfl), He.noat_ok (c.t.d.fact 88 (f := .noat "World" "tables") rfl), g_World⟩
  have D : TD K mg (He.ga K "Field") := ⟨(He.cls_ok (c.t.d.fact 77 (f := .cls "Field") rfl)), He.noat_ok (c.t.d.fact 89 (f := .noat "Field" "world") rfl), He.noat_ok (c.t.d.fact 90 (f := .noat "Field" "reach") rfl), He.noat_ok (c.t.d.fact 91 (f := .noat "Field" "busy") rfl), He.noat_ok (c.t.d.fact 92 (f := .noat "Field" "tries") rfl), He.noat_ok (c.t.d.fact 93 (f := .noat "Field" "known") rfl), He.noat_ok (c.t.d.fact 94 (f := .noat "Field" "kin") rfl), He.noat_ok (c.t.d.fact 95 (f := .noat "Field" "past") rfl), g_Field⟩
  have TFt : TF K mg w (He.ga K "FITS") (He.ga K "name_fits") (He.ga K "is_part") (He.ga K "reach_fits") := ⟨g_FITS, g_name_fits, g_is_part, g_reach_fits, c.t.tab 0 rfl, ⟨_, fit_ok x2 (by simp), tupAtB_ok t1⟩, ⟨_, fit_ok x2 (by simp), tupAtB_ok t2⟩, ⟨_, fit_ok x2 (by simp), tupAtB_ok t3⟩, ⟨_, fit_ok x2 (by simp), tupAtB_ok t4⟩⟩
  have M_World := He.mkr_ok (c.t.d.fact 75 (f := .mkr "World") rfl)
  have M_Field := He.mkr_ok (c.t.d.fact 78 (f := .mkr "Field") rfl)
  have M_stand := He.meth_ok (c.t.d.fact 80 (f := .meth "Field" "stand") rfl)
  have M_step := He.meth_ok (c.t.d.fact 81 (f := .meth "Field" "step") rfl)
  have M_do := He.meth_ok (c.t.d.fact 82 (f := .meth "Field" "do") rfl)
  have M_back := He.meth_ok (c.t.d.fact 83 (f := .meth "Field" "back") rfl)
  have M_back_to := He.meth_ok (c.t.d.fact 84 (f := .meth "Field" "back_to") rfl)
  have M_run := He.meth_ok (c.t.d.fact 85 (f := .meth "Field" "run") rfl)
  have M_tried := He.meth_ok (c.t.d.fact 86 (f := .meth "Field" "tried") rfl)
  obtain ⟨mvF, hb⟩ := F_Field_init.kbinds0 (ps := ["self", "world", "reach"]) 2 ["reach"] [] (fun {α} us mv ws => us ++ ws) (List.cons_ne_nil _ _) (fun _ h => (nomatch h)) (fun r1 _ r3 => r1.append r3) fun Dd doc pm an cdv ct us mv ws h1 h2 h3 => match us, mv, ws, h1, h2, h3 with | [_, _], [], [_], _, _, _ => rfl
  have bL := FunD.bindsA (ps := ["_law_script"]) F_law fun _ _ _ _ _ _ us hl => match us, hl with | [_], _ => rfl
  have e := hfa.symm.trans g_law
  cases e
  refine ⟨fd_law, fun s v => bL s [v] rfl, fun base _ _ => ?_⟩
  have c_is_whole := ok_is_whole (P := P) (w := w) (base := base) T F_is_whole g_is_whole
  have c_is_within := ok_is_within (P := P) (w := w) (base := base) T F_is_within g_is_within c_is_whole
  have c_is_tree := ok_is_tree (P := P) (w := w) (base := base) T F_is_tree g_is_tree c_is_within
  have c_downward := ok_downward (P := P) (w := w) (base := base) T F_downward g_downward
  have c_steps_between := ok_steps_between (P := P) (w := w) (base := base) T F_steps_between g_steps_between c_downward
  have c_gaps := ok_gaps (P := P) (w := w) (base := base) T F_gaps g_gaps c_steps_between
  have c_hangs_together := ok_hangs_together (P := P) (w := w) (base := base) T F_hangs_together g_hangs_together c_is_within
  have c_branch_around := ok_branch_around (P := P) (w := w) (base := base) T F_branch_around g_branch_around c_steps_between
  have c_least_gap := ok_least_gap (P := P) (w := w) (base := base) T F_least_gap g_least_gap
  have c_check_world := ok_check_world (P := P) (w := w) (base := base) T W F_check_world g_check_world
  have c_makes_part := ok_makes_part (P := P) (w := w) (base := base) T W F_makes_part g_makes_part c_hangs_together
  have c_is_part := ok_is_part (P := P) (w := w) (base := base) T W F_is_part g_is_part c_check_world c_makes_part
  have c_part_far := ok_part_far (P := P) (w := w) (base := base) T W F_part_far g_part_far c_least_gap
  have c_part_hull := ok_part_hull (P := P) (w := w) (base := base) T W F_part_hull g_part_hull c_branch_around
  have c_World := ok_World_init (P := P) (w := w) (base := base) T W F_World_init M_World c_is_tree c_gaps
  have c_is_name := ok_is_name (P := P) (w := w) (base := base) T F_is_name g_is_name
  have c_check_reach := ok_check_reach (P := P) (w := w) (base := base) T F_check_reach g_check_reach c_is_within
  have c_name_fits := ok_name_fits (P := P) (w := w) (base := base) T F_name_fits g_name_fits c_is_name
  have c_reach_fits := ok_reach_fits (P := P) (w := w) (base := base) T F_reach_fits g_reach_fits c_is_within
  have c_closed := ok_closed (P := P) (w := w) (base := base) T F_closed g_closed c_part_far c_part_hull
  have c_parted := ok_parted (P := P) (w := w) (base := base) T F_parted g_parted
  have c_put_in := ok_put_in (P := P) (w := w) (base := base) T F_put_in g_put_in
  have c_behind := ok_behind (P := P) (w := w) (base := base) T F_behind g_behind c_put_in
  have c_is_deed := ok_is_deed (P := P) (w := w) (base := base) T TFt F_is_deed g_is_deed c_name_fits c_is_part c_reach_fits
  have c_Field_init := ok_Field_init (P := P) (w := w) (base := base) T D F_Field_init c_check_world c_check_reach
  have m_stand := ok_stand (P := P) (w := w) (base := base) (CW := He.ga K "World") D M_stand F_Field_stand
  have m_step := ok_step (P := P) (w := w) (base := base) T D M_step F_Field_step c_behind c_closed
  have m_do := ok_do (P := P) (w := w) (base := base) T D M_do F_Field_do c_is_deed m_step c_parted
  have m_back := ok_back (P := P) (w := w) (base := base) (CW := He.ga K "World") T D M_back F_Field_back
  have m_back_to := ok_back_to (P := P) (w := w) (base := base) (CW := He.ga K "World") T D M_back_to F_Field_back_to m_back
  have m_run := ok_run (P := P) (w := w) (base := base) T D M_run F_Field_run c_is_deed m_step
  have m_tried := ok_tried (P := P) (w := w) (base := base) T D M_tried F_Field_tried m_run m_back_to
  have c_lw_cell := ok_lw_cell (P := P) (w := w) (base := base) T F_lw_cell g_lw_cell
  have c_lw_purse := ok_lw_purse (P := P) (w := w) (base := base) T F_lw_purse g_lw_purse
  have c_lw_pick := ok_lw_pick (P := P) (w := w) (base := base) T F_lw_pick g_lw_pick
  have c_lw_wood := ok_lw_wood (P := P) (w := w) (base := base) T F_lw_wood g_lw_wood c_lw_pick
  have c_lw_grove := ok_lw_grove (P := P) (w := w) (base := base) T F_lw_grove g_lw_grove c_lw_pick c_lw_wood
  have c_lw_gaps := ok_lw_gaps (P := P) (w := w) (base := base) T F_lw_gaps g_lw_gaps
  have c_lw_between_two := ok_lw_between_two (P := P) (w := w) (base := base) T F_lw_between_two g_lw_between_two
  have c_lw_limb := ok_lw_limb (P := P) (w := w) (base := base) T F_lw_limb g_lw_limb c_lw_gaps c_lw_between_two
  have c_lw_inside := ok_lw_inside (P := P) (w := w) (base := base) T F_lw_inside g_lw_inside
  have c_lw_each_in := ok_lw_each_in (P := P) (w := w) (base := base) T F_lw_each_in g_lw_each_in c_lw_inside
  have c_lw_point := ok_lw_point (P := P) (w := w) (base := base) T F_lw_point g_lw_point c_lw_pick
  have c_lw_alone := ok_lw_alone (P := P) (w := w) (base := base) T F_lw_alone g_lw_alone
  have c_lw_piece := ok_lw_piece (P := P) (w := w) (base := base) T F_lw_piece g_lw_piece c_lw_pick c_lw_limb
  have c_lw_some_piece := ok_lw_some_piece (P := P) (w := w) (base := base) T F_lw_some_piece g_lw_some_piece c_lw_pick c_lw_point c_lw_alone c_lw_piece
  have c_lw_words := ok_lw_words (P := P) (w := w) (base := base) T F_lw_words g_lw_words c_lw_pick
  have c_lw_less := ok_lw_less (P := P) (w := w) (base := base) T F_lw_less g_lw_less
  have c_lw_start := ok_lw_start (P := P) (w := w) (base := base) T F_lw_start g_lw_start c_lw_pick c_lw_grove c_lw_words
  have c_lw_led := ok_lw_led (P := P) (w := w) (base := base) T F_lw_led g_lw_led c_lw_less
  have c_lw_deed := ok_lw_deed (P := P) (w := w) (base := base) T F_lw_deed g_lw_deed c_lw_pick c_lw_some_piece
  have c_lw_changed_right := ok_lw_changed_right (P := P) (w := w) (base := base) T F_lw_changed_right g_lw_changed_right c_lw_each_in
  have c_lw_right := ok_lw_right (P := P) (w := w) (base := base) T D F_lw_right g_lw_right M_Field c_Field_init hb c_World m_stand m_do m_tried c_lw_start c_lw_deed c_lw_changed_right c_lw_led
  have c_law := ok_law (P := P) (w := w) (base := base) T F_law g_law c_lw_cell c_lw_purse c_lw_right
  exact c_law
end J
open PySem PySem.W PySem.Calls PyProof.Rows
theorem PySem.Challenge.cw_joinreach_k55_whole_one_comes_one_goes_holds : PySem.Challenge.rw_joinreach_k55_whole_one_comes_one_goes.Holds := by
  w_on; o_law
  refine HandSHeadRun.head_any (r := OpenLaw.row PySem.Challenge.rw_joinreach_k55_whole_one_comes_one_goes) (q := view (OpenLaw.row PySem.Challenge.rw_joinreach_k55_whole_one_comes_one_goes).prog [83]) (H := J.hk) (ob := J.ob) (M := 20000) (loose := J.nms) (d := HandSHeadRun.topDef (OpenLaw.row PySem.Challenge.rw_joinreach_k55_whole_one_comes_one_goes).prog 83) (kwd := []) J.ob_eq
    (by kernel_rfl) (fun s => by kernel_rfl) J.run (by kernel_rfl) (by kernel_rfl) (by kernel_rfl) (by rfl) (by first | assumption | decide +kernel) (by decide +kernel) ⟨rfl, rfl, rfl, rfl, rfl, by decide +kernel⟩ ?hw ?hc
  case hw => w_witness2
  case hc =>
    refine L2.walk_ofE (l := PySem.Challenge.rw_joinreach_k55_whole_one_comes_one_goes) (n := 63) (k := 10) (x := "_law_script") (CX := L2.CX0) rfl (by decide) (by kernel_rfl) ⟨rfl, by decide, by decide⟩ ?F (fun _ _ _ _ z => z)
    intro w mg fa h Y G hmg0
    obtain ⟨K, KX, c⟩ := Y
    have hmg : mg ("law" : PySem.Str) = some (.ref fa) := by
      have e : (HandSHeadRun.topDef (OpenLaw.row PySem.Challenge.rw_joinreach_k55_whole_one_comes_one_goes).prog 83).name = ("law" : PySem.Str) := by kernel_rfl
      rw [← e]
      exact hmg0
    obtain ⟨fd, hb, hF⟩ := J.facts (P := (PySem.Challenge.rw_joinreach_k55_whole_one_comes_one_goes).prog) (w := w) KX G hmg c
    exact ⟨K, fd, J.spLaw K, KX, hb, fun H a ns hl _ hS => ⟨a, ns, rfl, hS, fun _ => rfl⟩, hF⟩

