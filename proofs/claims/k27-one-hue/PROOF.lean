import PyProof.Rows.All
import Wide.All
import OpenK.AllK
import Wide.FinOn
import HandS.ForMost
import PySem.Challenge.RW_hueward_k27_whole_any_code_of_one_hue_wi
import Lean
import HandS.More
import HandS.Exc
import HandS.Defaults
import HandS.ExcIs
import HandS.Lambda
import HandS.Head0
import HandS.Head1
import HandS.Head2
import HandS.HeadEnd
import HandS.HeadHook1
import HandS.HeadHook2
import HandS.HeadHook3
import HandS.HeadHook4
import HandS.HeadWalk
import HandS.TupAny
import HandS.IsInst
import HandS.Steps
import HandS.Small
import HandS.Codes
import HandS.Style
import HandS.TryOnly
import KE.GoesEnum
import HandS.Iter
import PyProof.P3Eq
import PyProof.EqLayable
import HandS.DictComp
import HandS.TupMul
import KE.DataFind
import HandS.WordsExc
set_option autoImplicit true
set_option Elab.async false
set_option linter.all false
set_option maxRecDepth 100000
set_option maxHeartbeats 4000000
namespace Hue
open PySem L2
def top (i : Nat) : Stmt := PySem.Challenge.pw_hueward_k27_whole_any_code_of_one_hue_wi.main.body.getD i (.Pass ⟨0, 0, 0, 0⟩)
abbrev s_is_whole : Stmt := top 11
abbrev s_is_from : Stmt := top 12
abbrev s_is_votes : Stmt := top 18
abbrev s_are_registers : Stmt := top 19
abbrev s_instruction_fits : Stmt := top 20
abbrev s_settle_fits : Stmt := top 21
abbrev s_cell_fits : Stmt := top 22
abbrev s_is_code : Stmt := top 23
abbrev s_Block_init : Stmt := inClass (top 26) 0
abbrev s_Block_is_bare : Stmt := inClass (top 26) 1
abbrev s_Block_many : Stmt := inClass (top 26) 2
abbrev s_has_goal : Stmt := top 27
abbrev s_begin_at : Stmt := top 28
abbrev s_blocks_of : Stmt := top 29
abbrev s_many_cells : Stmt := top 30
abbrev s_settle_led : Stmt := top 31
abbrev s_laid : Stmt := top 32
abbrev s_widened : Stmt := top 35
abbrev s_narrowed : Stmt := top 36
abbrev s_law_begun : Stmt := top 38
abbrev s_law_mixed : Stmt := top 39
abbrev s_law_draw : Stmt := top 40
abbrev s_law_pick : Stmt := top 41
abbrev s_law_caught : Stmt := top 42
abbrev s_law_number : Stmt := top 43
abbrev s_law_size : Stmt := top 44
abbrev s_law_inputs : Stmt := top 45
abbrev s_law_votes : Stmt := top 46
abbrev s_law_two_words : Stmt := top 47
abbrev s_law_plain_step : Stmt := top 48
abbrev s_law_laid : Stmt := top 49
abbrev s_law_code_blocks : Stmt := top 50
abbrev s_law_sure_code : Stmt := top 51
abbrev s_law_weave_agreed : Stmt := top 52
abbrev s_law_weave_marked : Stmt := top 53
abbrev s_law_weave_even : Stmt := top 54
abbrev s_law_weave_settled : Stmt := top 55
abbrev s_law_weave_ran : Stmt := top 56
abbrev s_law_weave_blocks : Stmt := top 57
abbrev s_law_weave_widened : Stmt := top 58
abbrev s_law_any_code : Stmt := top 59
abbrev s_law_worth_of : Stmt := top 60
abbrev s_law_hue_done : Stmt := top 61
abbrev s_law_fresh_hue : Stmt := top 62
abbrev s_law_loose_code : Stmt := top 63
abbrev s_law_runs_right : Stmt := top 64
abbrev s_law_great_code : Stmt := top 65
abbrev s_law_refused : Stmt := top 66
abbrev s_law : Stmt := top 67
end Hue
set_option autoImplicit true
set_option Elab.async false
set_option linter.all false
set_option maxRecDepth 100000
set_option maxHeartbeats 0
namespace Hue
open PySem PySem.Spec PyProof.Rows L2
def d_is_whole : He.DefD := ⟨("is_whole", none), "is_whole", "is_whole", defArgs s_is_whole, defBody s_is_whole, defScope s_is_whole, [], []⟩
def d_is_from : He.DefD := ⟨("is_from", none), "is_from", "is_from", defArgs s_is_from, defBody s_is_from, defScope s_is_from, [], []⟩
def d_is_votes : He.DefD := ⟨("is_votes", none), "is_votes", "is_votes", defArgs s_is_votes, defBody s_is_votes, defScope s_is_votes, [], []⟩
def d_are_registers : He.DefD := ⟨("are_registers", none), "are_registers", "are_registers", defArgs s_are_registers, defBody s_are_registers, defScope s_are_registers, [], []⟩
def d_instruction_fits : He.DefD := ⟨("instruction_fits", none), "instruction_fits", "instruction_fits", defArgs s_instruction_fits, defBody s_instruction_fits, defScope s_instruction_fits, [], []⟩
def d_settle_fits : He.DefD := ⟨("settle_fits", none), "settle_fits", "settle_fits", defArgs s_settle_fits, defBody s_settle_fits, defScope s_settle_fits, [], []⟩
def d_cell_fits : He.DefD := ⟨("cell_fits", none), "cell_fits", "cell_fits", defArgs s_cell_fits, defBody s_cell_fits, defScope s_cell_fits, [], []⟩
def d_is_code : He.DefD := ⟨("is_code", none), "is_code", "is_code", defArgs s_is_code, defBody s_is_code, defScope s_is_code, [], []⟩
def d_Block_init : He.DefD := ⟨("Block", some "__init__"), "__init__", "Block.__init__", defArgs s_Block_init, defBody s_Block_init, defScope s_Block_init, [], []⟩
def d_Block_is_bare : He.DefD := ⟨("Block", some "is_bare"), "is_bare", "Block.is_bare", defArgs s_Block_is_bare, defBody s_Block_is_bare, defScope s_Block_is_bare, [], []⟩
def d_Block_many : He.DefD := ⟨("Block", some "many"), "many", "Block.many", defArgs s_Block_many, defBody s_Block_many, defScope s_Block_many, [], []⟩
def d_has_goal : He.DefD := ⟨("has_goal", none), "has_goal", "has_goal", defArgs s_has_goal, defBody s_has_goal, defScope s_has_goal, [], []⟩
def d_begin_at : He.DefD := ⟨("begin_at", none), "begin_at", "begin_at", defArgs s_begin_at, defBody s_begin_at, defScope s_begin_at, [], []⟩
def d_blocks_of : He.DefD := ⟨("blocks_of", none), "blocks_of", "blocks_of", defArgs s_blocks_of, defBody s_blocks_of, defScope s_blocks_of, [], []⟩
def d_many_cells : He.DefD := ⟨("many_cells", none), "many_cells", "many_cells", defArgs s_many_cells, defBody s_many_cells, defScope s_many_cells, [], []⟩
def d_settle_led : He.DefD := ⟨("settle_led", none), "settle_led", "settle_led", defArgs s_settle_led, defBody s_settle_led, defScope s_settle_led, [], []⟩
def d_laid : He.DefD := ⟨("laid", none), "laid", "laid", defArgs s_laid, defBody s_laid, defScope s_laid, [], []⟩
def d_widened : He.DefD := ⟨("widened", none), "widened", "widened", defArgs s_widened, defBody s_widened, defScope s_widened, [], []⟩
def d_narrowed : He.DefD := ⟨("narrowed", none), "narrowed", "narrowed", defArgs s_narrowed, defBody s_narrowed, defScope s_narrowed, [], []⟩
def d_law_begun : He.DefD := ⟨("_law_begun", none), "_law_begun", "_law_begun", defArgs s_law_begun, defBody s_law_begun, defScope s_law_begun, [], []⟩
def d_law_mixed : He.DefD := ⟨("_law_mixed", none), "_law_mixed", "_law_mixed", defArgs s_law_mixed, defBody s_law_mixed, defScope s_law_mixed, [], []⟩
def d_law_draw : He.DefD := ⟨("_law_draw", none), "_law_draw", "_law_draw", defArgs s_law_draw, defBody s_law_draw, defScope s_law_draw, [], []⟩
def d_law_pick : He.DefD := ⟨("_law_pick", none), "_law_pick", "_law_pick", defArgs s_law_pick, defBody s_law_pick, defScope s_law_pick, [], []⟩
def d_law_caught : He.DefD := ⟨("_law_caught", none), "_law_caught", "_law_caught", defArgs s_law_caught, defBody s_law_caught, defScope s_law_caught, [], []⟩
def d_law_number : He.DefD := ⟨("_law_number", none), "_law_number", "_law_number", defArgs s_law_number, defBody s_law_number, defScope s_law_number, [], []⟩
def d_law_size : He.DefD := ⟨("_law_size", none), "_law_size", "_law_size", defArgs s_law_size, defBody s_law_size, defScope s_law_size, [], []⟩
def d_law_inputs : He.DefD := ⟨("_law_inputs", none), "_law_inputs", "_law_inputs", defArgs s_law_inputs, defBody s_law_inputs, defScope s_law_inputs, [], []⟩
def d_law_votes : He.DefD := ⟨("_law_votes", none), "_law_votes", "_law_votes", defArgs s_law_votes, defBody s_law_votes, defScope s_law_votes, [], []⟩
def d_law_two_words : He.DefD := ⟨("_law_two_words", none), "_law_two_words", "_law_two_words", defArgs s_law_two_words, defBody s_law_two_words, defScope s_law_two_words, [], []⟩
def d_law_plain_step : He.DefD := ⟨("_law_plain_step", none), "_law_plain_step", "_law_plain_step", defArgs s_law_plain_step, defBody s_law_plain_step, defScope s_law_plain_step, [], []⟩
def d_law_laid : He.DefD := ⟨("_law_laid", none), "_law_laid", "_law_laid", defArgs s_law_laid, defBody s_law_laid, defScope s_law_laid, [], []⟩
def d_law_code_blocks : He.DefD := ⟨("_law_code_blocks", none), "_law_code_blocks", "_law_code_blocks", defArgs s_law_code_blocks, defBody s_law_code_blocks, defScope s_law_code_blocks, [], []⟩
def d_law_sure_code : He.DefD := ⟨("_law_sure_code", none), "_law_sure_code", "_law_sure_code", defArgs s_law_sure_code, defBody s_law_sure_code, defScope s_law_sure_code, [], []⟩
def d_law_weave_agreed : He.DefD := ⟨("_law_weave_agreed", none), "_law_weave_agreed", "_law_weave_agreed", defArgs s_law_weave_agreed, defBody s_law_weave_agreed, defScope s_law_weave_agreed, [], []⟩
def d_law_weave_marked : He.DefD := ⟨("_law_weave_marked", none), "_law_weave_marked", "_law_weave_marked", defArgs s_law_weave_marked, defBody s_law_weave_marked, defScope s_law_weave_marked, [], []⟩
def d_law_weave_even : He.DefD := ⟨("_law_weave_even", none), "_law_weave_even", "_law_weave_even", defArgs s_law_weave_even, defBody s_law_weave_even, defScope s_law_weave_even, [], []⟩
def d_law_weave_settled : He.DefD := ⟨("_law_weave_settled", none), "_law_weave_settled", "_law_weave_settled", defArgs s_law_weave_settled, defBody s_law_weave_settled, defScope s_law_weave_settled, [], []⟩
def d_law_weave_ran : He.DefD := ⟨("_law_weave_ran", none), "_law_weave_ran", "_law_weave_ran", defArgs s_law_weave_ran, defBody s_law_weave_ran, defScope s_law_weave_ran, [], []⟩
def d_law_weave_blocks : He.DefD := ⟨("_law_weave_blocks", none), "_law_weave_blocks", "_law_weave_blocks", defArgs s_law_weave_blocks, defBody s_law_weave_blocks, defScope s_law_weave_blocks, [], []⟩
def d_law_weave_widened : He.DefD := ⟨("_law_weave_widened", none), "_law_weave_widened", "_law_weave_widened", defArgs s_law_weave_widened, defBody s_law_weave_widened, defScope s_law_weave_widened, [], []⟩
def d_law_any_code : He.DefD := ⟨("_law_any_code", none), "_law_any_code", "_law_any_code", defArgs s_law_any_code, defBody s_law_any_code, defScope s_law_any_code, [], []⟩
def d_law_worth_of : He.DefD := ⟨("_law_worth_of", none), "_law_worth_of", "_law_worth_of", defArgs s_law_worth_of, defBody s_law_worth_of, defScope s_law_worth_of, [], []⟩
def d_law_hue_done : He.DefD := ⟨("_law_hue_done", none), "_law_hue_done", "_law_hue_done", defArgs s_law_hue_done, defBody s_law_hue_done, defScope s_law_hue_done, [], []⟩
def d_law_fresh_hue : He.DefD := ⟨("_law_fresh_hue", none), "_law_fresh_hue", "_law_fresh_hue", defArgs s_law_fresh_hue, defBody s_law_fresh_hue, defScope s_law_fresh_hue, [], []⟩
def d_law_loose_code : He.DefD := ⟨("_law_loose_code", none), "_law_loose_code", "_law_loose_code", defArgs s_law_loose_code, defBody s_law_loose_code, defScope s_law_loose_code, [], []⟩
def d_law_runs_right : He.DefD := ⟨("_law_runs_right", none), "_law_runs_right", "_law_runs_right", defArgs s_law_runs_right, defBody s_law_runs_right, defScope s_law_runs_right, [], []⟩
def d_law_great_code : He.DefD := ⟨("_law_great_code", none), "_law_great_code", "_law_great_code", defArgs s_law_great_code, defBody s_law_great_code, defScope s_law_great_code, [], []⟩
def d_law_refused : He.DefD := ⟨("_law_refused", none), "_law_refused", "_law_refused", defArgs s_law_refused, defBody s_law_refused, defScope s_law_refused, [], []⟩
def d_law : He.DefD := ⟨("law", none), "law", "law", defArgs s_law, defBody s_law, defScope s_law, [], []⟩
def fn : List He.DefD := [d_is_whole, d_is_from, d_is_votes, d_are_registers, d_instruction_fits, d_settle_fits, d_cell_fits, d_is_code, d_Block_init, d_Block_is_bare, d_Block_many, d_has_goal, d_begin_at, d_blocks_of, d_many_cells, d_settle_led, d_laid, d_widened, d_narrowed, d_law_begun, d_law_mixed, d_law_draw, d_law_pick, d_law_caught, d_law_number, d_law_size, d_law_inputs, d_law_votes, d_law_two_words, d_law_plain_step, d_law_laid, d_law_code_blocks, d_law_sure_code, d_law_weave_agreed, d_law_weave_marked, d_law_weave_even, d_law_weave_settled, d_law_weave_ran, d_law_weave_blocks, d_law_weave_widened, d_law_any_code, d_law_worth_of, d_law_hue_done, d_law_fresh_hue, d_law_loose_code, d_law_runs_right, d_law_great_code, d_law_refused, d_law]
def fa : List He.Fa := [He.Fa.glo "is_whole", He.Fa.glo "is_from", He.Fa.glo "is_votes", He.Fa.glo "are_registers", He.Fa.glo "instruction_fits", He.Fa.glo "settle_fits", He.Fa.glo "cell_fits", He.Fa.glo "is_code", He.Fa.glo "has_goal", He.Fa.glo "begin_at", He.Fa.glo "blocks_of", He.Fa.glo "many_cells", He.Fa.glo "settle_led", He.Fa.glo "laid", He.Fa.glo "widened", He.Fa.glo "narrowed", He.Fa.glo "_law_begun", He.Fa.glo "_law_mixed", He.Fa.glo "_law_draw", He.Fa.glo "_law_pick", He.Fa.glo "_law_caught", He.Fa.glo "_law_number", He.Fa.glo "_law_size", He.Fa.glo "_law_inputs", He.Fa.glo "_law_votes", He.Fa.glo "_law_two_words", He.Fa.glo "_law_plain_step", He.Fa.glo "_law_laid", He.Fa.glo "_law_code_blocks", He.Fa.glo "_law_sure_code", He.Fa.glo "_law_weave_agreed", He.Fa.glo "_law_weave_marked", He.Fa.glo "_law_weave_even", He.Fa.glo "_law_weave_settled", He.Fa.glo "_law_weave_ran", He.Fa.glo "_law_weave_blocks", He.Fa.glo "_law_weave_widened", He.Fa.glo "_law_any_code", He.Fa.glo "_law_worth_of", He.Fa.glo "_law_hue_done", He.Fa.glo "_law_fresh_hue", He.Fa.glo "_law_loose_code", He.Fa.glo "_law_runs_right", He.Fa.glo "_law_great_code", He.Fa.glo "_law_refused", He.Fa.glo "law", He.Fa.free "isinstance", He.Fa.free "int", He.Fa.free "bool", He.Fa.free "tuple", He.Fa.free "str", He.Fa.free "len", He.Fa.free "enumerate", He.Fa.free "min", He.Fa.free "sum", He.Fa.free "range", He.Fa.free "abs", He.Fa.free "list", He.Fa.int "LEAST_SIZE" 2, He.Fa.int "MOST_SIZE" 10000, He.Fa.int "MOST_PORT" 5, He.Fa.int "MOST_HUES_codes" 5, He.Fa.int "MOST_BANK" 600, He.Fa.int "MOST_CELLS_codes" 4000, He.Fa.int "MANY_REGISTERS" 8, He.Fa.int "MOST_HUES_laying" 5, He.Fa.int "MOST_CELLS_compiling" 4000, He.Fa.glo "TWOS", He.Fa.glo "Block", He.Fa.cls "Block", He.Fa.mkr "Block", He.Fa.noat "Block" "b_keys", He.Fa.noat "Block" "b_owns", He.Fa.noat "Block" "b_settle", He.Fa.meth "Block" "is_bare", He.Fa.meth "Block" "many", He.Fa.glo "HueError", He.Fa.glo "BadVotes", He.Fa.glo "BadCode", He.Fa.glo "BadHue", He.Fa.glo "TooLarge", He.Fa.exc "BadVotes", He.Fa.exc "BadCode", He.Fa.exc "BadHue", He.Fa.exc "TooLarge", He.Fa.exm "BadVotes" "HueError" true, He.Fa.exm "BadCode" "HueError" true, He.Fa.exm "BadHue" "HueError" true, He.Fa.exm "TooLarge" "HueError" true]
def excB (K : PySem.W.Frag) (x : Str) : Bool := decide (PySem.W.findIn K (.ref (He.ga K x)) "__getattribute__" = some (some (.builtin "BaseException.__getattribute__"))) && (decide (PySem.W.findIn K (.ref (He.ga K x)) "__getattr__" = some none) && (PySem.W.hasDictIn K (He.ga K x) && (decide (PySem.W.findIn K (.ref (He.ga K x)) "__class__" = some (some (.builtin "object.__class__"))) && (decide (PySem.W.specialIn K (.builtin "object.__class__") "__get__" = some (some (.builtin "getset_descriptor.__get__"))) && (decide (PySem.W.takesIn K (.builtin "object.__class__") = some true) && decide (PySem.W.mroIn K (He.ga K x) (.type "object") = some true))))))
def kitB2 (K : PySem.W.Frag) (x y : Str) (b : Bool) : Bool := decide (PySem.W.kitOne K (.ref (He.ga K x)) (.ref (He.ga K y)) = some b)
def ex (K : PySem.W.Frag) : Bool := He.tupB K "TWOS" [.str "plus", .str "minus", .str "times", .str "rest", .str "less", .str "same"] && (excB K "BadVotes" && (excB K "BadCode" && (excB K "TooLarge" && (kitB2 K "BadVotes" "BadVotes" true && (kitB2 K "BadCode" "BadCode" true && (kitB2 K "TooLarge" "TooLarge" true))))))
def tf : List He.Defn := [("_law_refused", none)]
abbrev R : PySem.W.OpenRow := PySem.W.OpenLaw.row PySem.Challenge.rw_hueward_k27_whole_any_code_of_one_hue_wi
abbrev hk : PySem.W.Hook := He.hookX 5 fa fn [] tf ex
def ob (s : PySem.W.SharedT) : He.AlX := He.obsX 5 fa fn [] tf ex (HandSHeadRun.getT s)
theorem ob_eq (s : PySem.W.SharedT) : ob s = hk.obs s.abs := He.obsX_eq (HandSHeadRun.getT_eq s)
def loose : List Str := [("is_whole" : Str), ("is_from" : Str), ("is_votes" : Str), ("are_registers" : Str), ("instruction_fits" : Str), ("settle_fits" : Str), ("cell_fits" : Str), ("is_code" : Str), ("has_goal" : Str), ("begin_at" : Str), ("blocks_of" : Str), ("many_cells" : Str), ("settle_led" : Str), ("laid" : Str), ("widened" : Str), ("narrowed" : Str), ("_law_begun" : Str), ("_law_mixed" : Str), ("_law_draw" : Str), ("_law_pick" : Str), ("_law_caught" : Str), ("_law_number" : Str), ("_law_size" : Str), ("_law_inputs" : Str), ("_law_votes" : Str), ("_law_two_words" : Str), ("_law_plain_step" : Str), ("_law_laid" : Str), ("_law_code_blocks" : Str), ("_law_sure_code" : Str), ("_law_weave_agreed" : Str), ("_law_weave_marked" : Str), ("_law_weave_even" : Str), ("_law_weave_settled" : Str), ("_law_weave_ran" : Str), ("_law_weave_blocks" : Str), ("_law_weave_widened" : Str), ("_law_any_code" : Str), ("_law_worth_of" : Str), ("_law_hue_done" : Str), ("_law_fresh_hue" : Str), ("_law_loose_code" : Str), ("_law_runs_right" : Str), ("_law_great_code" : Str), ("_law_refused" : Str), ("Block" : Str), ("HueError" : Str), ("BadVotes" : Str), ("BadCode" : Str), ("BadHue" : Str), ("TooLarge" : Str), ("TWOS" : Str), ("LEAST_SIZE" : Str), ("MOST_SIZE" : Str), ("MOST_PORT" : Str), ("MOST_HUES_codes" : Str), ("MOST_BANK" : Str), ("MOST_CELLS_codes" : Str), ("MANY_REGISTERS" : Str), ("MOST_HUES_laying" : Str), ("MOST_CELLS_compiling" : Str)]
theorem run (w : World) : HandSHeadRun.RunEq R (PySem.W.view R.prog [67]) hk ob 20000 loose w := by
  intro os
  kernel_rfl
end Hue
set_option Elab.async false
set_option linter.all false
set_option maxRecDepth 100000
set_option maxHeartbeats 0
set_option autoImplicit false
namespace Hue
open PySem PySem.W PySem.Calls PyProof.Rows
/-- the claim, from what is known of the law at the head -/
theorem holds_of (F : ∀ (w : World) (K : PySem.W.Frag) (h : Heap) (mg : PySem.Str → Option Value) (fa0 : Addr), K.In h → h.Ns mainGlobals mg → mg ("law" : PySem.Str) = some (.ref fa0) → He.SaysX fa fn [] tf ex w h K →
    LamX.LawAtS PySem.Challenge.rw_hueward_k27_whole_any_code_of_one_hue_wi w K L2.CX0 11 63 "_law_script" mg fa0 h) : PySem.Challenge.rw_hueward_k27_whole_any_code_of_one_hue_wi.Holds := by
  w_on; o_law
  refine HandSHeadRun.head_any (r := OpenLaw.row PySem.Challenge.rw_hueward_k27_whole_any_code_of_one_hue_wi) (q := view (OpenLaw.row PySem.Challenge.rw_hueward_k27_whole_any_code_of_one_hue_wi).prog [67]) (H := hk) (ob := ob) (M := 20000) (loose := loose) (d := HandSHeadRun.topDef (OpenLaw.row PySem.Challenge.rw_hueward_k27_whole_any_code_of_one_hue_wi).prog 67) (kwd := []) ob_eq
    (by kernel_rfl) (fun s => by kernel_rfl) run (by kernel_rfl) (by kernel_rfl) (by kernel_rfl) (by rfl) (by first | assumption | decide +kernel) (by decide +kernel) ⟨rfl, rfl, rfl, rfl, rfl, by decide +kernel⟩ ?hw ?hc
  case hw => w_witness2
  case hc =>
    refine LamX.walk_ofTsE (l := PySem.Challenge.rw_hueward_k27_whole_any_code_of_one_hue_wi) (n := 63) (k := 11) (x := "_law_script") (CX := fun _ => L2.CX0) rfl (by decide) (by kernel_rfl) ⟨rfl, by decide, by decide⟩ ?F (fun _ _ _ _ _ z => z)
    rintro w mg fa h ⟨K, KX, c⟩ G hm
    refine ⟨K, KX, F w K h mg fa KX G ?_ c⟩
    have e : (HandSHeadRun.topDef (OpenLaw.row PySem.Challenge.rw_hueward_k27_whole_any_code_of_one_hue_wi).prog 67).name = ("law" : PySem.Str) := by kernel_rfl
    exact e ▸ hm
end Hue
set_option autoImplicit true
set_option Elab.async false
set_option linter.all false
set_option maxRecDepth 100000
set_option maxHeartbeats 4000000
namespace Hue
open PySem L2
/-! ### what is known of the heap: owned objects, tuples, and a word of tuples -/
abbrev Obs := List (Addr × HO)
abbrev Tps := List (Addr × List V)
/-- tuples stay -/
def TSub (H H' : Hp) : Prop := ∀ b xs, H b = some (.tup xs) → H' b = some (.tup xs)
theorem TSub.refl (H : Hp) : TSub H H := fun _ _ h => h
theorem TSub.trans {H H1 H2 : Hp} (a : TSub H H1) (b : TSub H1 H2) : TSub H H2 := fun c xs h => b c xs (a c xs h)
def Mono (P : Hp → Prop) : Prop := ∀ H H', TSub H H' → P H → P H'
theorem Mono.and2 {P S : Hp → Prop} (a : Mono P) (b : Mono S) : Mono (fun H => P H ∧ S H) := fun H H' t h => ⟨a H H' t h.1, b H H' t h.2⟩
def isTup : HO → Bool
  | .tup _ => true
  | _ => false
/-- all but M stays, tuples too -/
structure Fm (M : List Addr) (H H' : Hp) : Prop where
  keep : ∀ b o, H b = some o → b ∉ M → H' b = some o
  tup : TSub H H'
theorem Fm.refl (M : List Addr) (H : Hp) : Fm M H H := ⟨fun _ _ h _ => h, TSub.refl H⟩
theorem Fm.trans {M : List Addr} {H H1 H2 : Hp} (a : Fm M H H1) (b : Fm M H1 H2) : Fm M H H2 := ⟨fun c o h n => b.keep c o (a.keep c o h n) n, a.tup.trans b.tup⟩
theorem Fm.same {M : List Addr} {H H' : Hp} (s : Same H H') : Fm M H H' := ⟨fun b o h _ => s b o h, fun b xs h => s b _ h⟩
theorem Fm.mono {M M' : List Addr} {H H' : Hp} (a : Fm M H H') (h : ∀ b ∈ M, b ∈ M') : Fm M' H H' := ⟨fun b o e n => a.keep b o e fun z => n (h b z), a.tup⟩
theorem Fm.toSame {H H' : Hp} (a : Fm [] H H') : Same H H' := fun b o h => a.keep b o h (by simp)
structure Kn (H0 : Hp) (M : List Addr) (R : Obs) (H : Hp) (L : Obs) (T : Tps) (P : Hp → Prop) : Prop where
  fr : Fm M H0 H
  ro : ∀ p ∈ R, H0 p.1 = some p.2 ∧ p.1 ∉ M
  nd : (L.map (·.1)).Nodup
  nt : ∀ p ∈ L, isTup p.2 = false
  ats : ∀ p ∈ L, H p.1 = some p.2
  own : ∀ p ∈ L, p.1 ∈ M ∨ H0 p.1 = none
  ta : ∀ q ∈ T, H q.1 = some (.tup q.2)
  pp : P H
  mono : Mono P
section
variable {H0 H H' : Hp} {M : List Addr} {R L : Obs} {T : Tps} {P : Hp → Prop} {p : Addr} {o : HO} {xs : List V}
theorem tsub_upd_new (hp : H p = none) : TSub H (upd H p o) := fun b xs h => by
  rw [upd_ne (ne_of_none h hp)]
  exact h
theorem tsub_upd_old {u : HO} (hp : H p = some u) (hu : isTup u = false) : TSub H (upd H p o) := fun b xs h => by
  rw [upd_ne (ne_of h hp (by intro z; rw [← z] at hu; cases hu))]
  exact h
theorem Kn.out (kn : Kn H0 M R H L T P) : Fm M H0 H := kn.fr
theorem Kn.notin (kn : Kn H0 M R H L T P) (hp : H p = none) : p ∉ L.map (·.1) := fun z => by
  obtain ⟨q, hq, e⟩ := List.mem_map.mp z
  have h := kn.ats q hq
  rw [e, hp] at h
  cases h
theorem Kn.free0 (kn : Kn H0 M R H L T P) (hp : H p = none) : p ∈ M ∨ H0 p = none := by
  by_cases hm : p ∈ M
  · exact .inl hm
  · refine .inr ?_
    cases e : H0 p with
    | none => rfl
    | some u =>
      have h := kn.fr.keep p u e hm
      rw [hp] at h
      cases h
/-- a new object -/
theorem Kn.new (kn : Kn H0 M R H L T P) (o : HO) (hp : H p = none) (ht : isTup o = false) : Kn H0 M R (upd H p o) ((p, o) :: L) T P where
  fr := ⟨fun b u h n => by
    have h1 := kn.fr.keep b u h n
    rw [upd_ne (ne_of_none h1 hp)]
    exact h1, kn.fr.tup.trans (tsub_upd_new hp)⟩
  ro := kn.ro
  nd := List.nodup_cons.mpr ⟨kn.notin hp, kn.nd⟩
  nt := fun q hq => by
    rcases List.mem_cons.mp hq with e | hq
    · rw [e]
      exact ht
    · exact kn.nt q hq
  ats := fun q hq => by
    rcases List.mem_cons.mp hq with e | hq
    · rw [e]
      exact upd_same
    · have h := kn.ats q hq
      rw [upd_ne (ne_of_none h hp)]
      exact h
  own := fun q hq => by
    rcases List.mem_cons.mp hq with e | hq
    · rw [e]
      exact kn.free0 hp
    · exact kn.own q hq
  ta := fun q hq => tsub_upd_new hp _ _ (kn.ta q hq)
  pp := kn.mono _ _ (tsub_upd_new hp) kn.pp
  mono := kn.mono
/-- a new tuple -/
theorem Kn.tup (kn : Kn H0 M R H L T P) (xs : List V) (hp : H p = none) : Kn H0 M R (upd H p (.tup xs)) L ((p, xs) :: T) P where
  fr := ⟨fun b u h n => by
    have h1 := kn.fr.keep b u h n
    rw [upd_ne (ne_of_none h1 hp)]
    exact h1, kn.fr.tup.trans (tsub_upd_new hp)⟩
  ro := kn.ro
  nd := kn.nd
  nt := kn.nt
  ats := fun q hq => by
    have h := kn.ats q hq
    rw [upd_ne (ne_of_none h hp)]
    exact h
  own := kn.own
  ta := fun q hq => by
    rcases List.mem_cons.mp hq with e | hq
    · rw [e]
      exact upd_same
    · exact tsub_upd_new hp _ _ (kn.ta q hq)
  pp := kn.mono _ _ (tsub_upd_new hp) kn.pp
  mono := kn.mono
theorem nodup_get {L : Obs} (nd : (L.map (·.1)).Nodup) {i j : Nat} {q r : Addr × HO} (hi : L[i]? = some q) (hj : L[j]? = some r) (e : q.1 = r.1) : i = j := by
  have h1 : (L.map (·.1))[i]? = some q.1 := by rw [List.getElem?_map, hi] <;> rfl
  have h2 : (L.map (·.1))[j]? = some q.1 := by rw [List.getElem?_map, hj, e] <;> rfl
  exact nd_ix nd h1 h2
theorem set_map (L : Obs) {i : Nat} {o' : HO} (hi : L[i]? = some (p, o)) : (L.set i (p, o')).map (·.1) = L.map (·.1) := by
  rw [List.map_set]
  refine List.ext_getElem? fun j => ?_
  by_cases h : i = j
  · subst h
    have hl : i < (L.map (·.1)).length := by
      rw [List.length_map]
      exact (List.getElem?_eq_some_iff.mp hi).1
    rw [List.getElem?_set_self hl, List.getElem?_map, hi] <;> rfl
  · rw [List.getElem?_set_ne h]
theorem mem_set {L : Obs} {i : Nat} {q r : Addr × HO} (h : q ∈ L.set i r) : q = r ∨ ∃ j, j ≠ i ∧ L[j]? = some q := by
  obtain ⟨j, hj, e⟩ := List.mem_iff_getElem.mp h
  by_cases hij : i = j
  · subst hij
    rw [List.getElem_set_self] at e
    exact .inl e.symm
  · rw [List.getElem_set_ne hij] at e
    refine .inr ⟨j, fun z => hij z.symm, ?_⟩
    rw [List.length_set] at hj
    rw [List.getElem?_eq_getElem hj, e]
/-- a store to an owned object -/
theorem Kn.put (kn : Kn H0 M R H L T P) {i : Nat} (o' : HO) (hi : L[i]? = some (p, o)) (ht : isTup o' = false) : Kn H0 M R (upd H p o') (L.set i (p, o')) T P := by
  have hm : (p, o) ∈ L := List.mem_of_getElem? hi
  have hp := kn.ats _ hm
  have hto := kn.nt _ hm
  have ts : TSub H (upd H p o') := tsub_upd_old hp hto
  refine ⟨⟨fun b u h n => ?_, kn.fr.tup.trans ts⟩, kn.ro, by rw [set_map L hi]; exact kn.nd, fun q hq => ?_, fun q hq => ?_, fun q hq => ?_, fun q hq => ts _ _ (kn.ta q hq), kn.mono _ _ ts kn.pp, kn.mono⟩
  · have hb : b ≠ p := fun z => by
      rw [z] at h n
      rcases kn.own _ hm with w | w
      · exact n w
      · have w' : H0 p = none := w
        rw [w'] at h
        cases h
    rw [upd_ne hb]
    exact kn.fr.keep b u h n
  · rcases mem_set hq with e | ⟨j, _, e⟩
    · rw [e]
      exact ht
    · exact kn.nt q (List.mem_of_getElem? e)
  · rcases mem_set hq with e | ⟨j, hj, e⟩
    · rw [e]
      exact upd_same
    · have hne : q.1 ≠ p := fun z => hj (nodup_get kn.nd e hi z)
      rw [upd_ne hne]
      exact kn.ats q (List.mem_of_getElem? e)
  · rcases mem_set hq with e | ⟨j, _, e⟩
    · rw [e]
      exact (show p ∈ M ∨ H0 p = none from kn.own (p, o) hm)
    · exact kn.own q (List.mem_of_getElem? e)
/-- all of it stays -/
theorem Kn.same (kn : Kn H0 M R H L T P) (s : Same H H') : Kn H0 M R H' L T P :=
  ⟨kn.fr.trans (.same s), kn.ro, kn.nd, kn.nt, fun q hq => s _ _ (kn.ats q hq), kn.own, fun q hq => s _ _ (kn.ta q hq), kn.mono _ _ (fun b xs h => s b _ h) kn.pp, kn.mono⟩
/-- some owned objects were changed: L' has the same addresses -/
theorem Kn.frame (kn : Kn H0 M R H L T P) {N : List Addr} {L' : Obs} (f : Fm N H H') (hN : ∀ b ∈ N, b ∈ L.map (·.1)) (hk : L'.map (·.1) = L.map (·.1)) (hnt : ∀ q ∈ L', isTup q.2 = false)
    (ha : ∀ q ∈ L', (q.1 ∉ N ∧ q ∈ L) ∨ H' q.1 = some q.2) : Kn H0 M R H' L' T P := by
  have ow : ∀ b, b ∈ L.map (·.1) → b ∈ M ∨ H0 b = none := fun b hb => by
    obtain ⟨q, hq, e⟩ := List.mem_map.mp hb
    rw [← e]
    exact kn.own q hq
  refine ⟨⟨fun b u h n => f.keep b u (kn.fr.keep b u h n) fun z => ?_, kn.fr.tup.trans f.tup⟩, kn.ro, by rw [hk]; exact kn.nd, hnt, fun q hq => ?_, fun q hq => ?_, fun q hq => f.tup _ _ (kn.ta q hq), kn.mono _ _ f.tup kn.pp, kn.mono⟩
  · rcases ow b (hN b z) with w | w
    · exact n w
    · rw [w] at h
      cases h
  · rcases ha q hq with ⟨n, m⟩ | e
    · exact f.keep _ _ (kn.ats q m) n
    · exact e
  · refine ow q.1 ?_
    rw [← hk]
    exact List.mem_map.mpr ⟨q, hq, rfl⟩
/-- one more word -/
theorem Kn.and (kn : Kn H0 M R H L T P) {S : Hp → Prop} (m : Mono S) (h : S H) : Kn H0 M R H L T (fun H => P H ∧ S H) :=
  ⟨kn.fr, kn.ro, kn.nd, kn.nt, kn.ats, kn.own, kn.ta, ⟨kn.pp, h⟩, fun H H' t ⟨a, b⟩ => ⟨kn.mono H H' t a, m H H' t b⟩⟩
theorem Kn.imp (kn : Kn H0 M R H L T P) {S : Hp → Prop} (m : Mono S) (h : P H → S H) : Kn H0 M R H L T S :=
  ⟨kn.fr, kn.ro, kn.nd, kn.nt, kn.ats, kn.own, kn.ta, h kn.pp, m⟩
/-- another list of tuples -/
theorem Kn.tps (kn : Kn H0 M R H L T P) {T' : Tps} (h : ∀ q ∈ T', H q.1 = some (.tup q.2)) : Kn H0 M R H L T' P :=
  ⟨kn.fr, kn.ro, kn.nd, kn.nt, kn.ats, kn.own, h, kn.pp, kn.mono⟩
theorem Kn.noT (kn : Kn H0 M R H L T P) : Kn H0 M R H L [] P := kn.tps fun q hq => by cases hq
/-- an object is left out -/
theorem Kn.drop (kn : Kn H0 M R H ((p, o) :: L) T P) : Kn H0 M R H L T P :=
  ⟨kn.fr, kn.ro, (List.nodup_cons.mp kn.nd).2, fun q hq => kn.nt q (List.mem_cons_of_mem _ hq), fun q hq => kn.ats q (List.mem_cons_of_mem _ hq), fun q hq => kn.own q (List.mem_cons_of_mem _ hq), kn.ta, kn.pp, kn.mono⟩
/-- owned objects in another order, fewer -/
theorem Kn.obs (kn : Kn H0 M R H L T P) {L' : Obs} (nd : (L'.map (·.1)).Nodup) (h : ∀ q ∈ L', q ∈ L) : Kn H0 M R H L' T P :=
  ⟨kn.fr, kn.ro, nd, fun q hq => kn.nt q (h q hq), fun q hq => kn.ats q (h q hq), fun q hq => kn.own q (h q hq), kn.ta, kn.pp, kn.mono⟩
/-- an object that a callee made -/
theorem Kn.add {L' : Obs} {T' : Tps} {P' : Hp → Prop} (kn : Kn H0 M R H L T P) (kn' : Kn H0 M R H' L' T' P') (hk : L'.map (·.1) = L.map (·.1)) (h0 : H p = none) (h1 : H' p = some o) (ht : isTup o = false) : Kn H0 M R H' ((p, o) :: L') T' P' := by
  refine ⟨kn'.fr, kn'.ro, ?_, fun q hq => ?_, fun q hq => ?_, fun q hq => ?_, kn'.ta, kn'.pp, kn'.mono⟩
  · show (p :: L'.map (·.1)).Nodup
    rw [hk]
    exact List.nodup_cons.mpr ⟨kn.notin h0, kn.nd⟩
  · rcases List.mem_cons.mp hq with e | hq
    · rw [e]
      exact ht
    · exact kn'.nt q hq
  · rcases List.mem_cons.mp hq with e | hq
    · rw [e]
      exact h1
    · exact kn'.ats q hq
  · rcases List.mem_cons.mp hq with e | hq
    · rw [e]
      exact kn.free0 h0
    · exact kn'.own q hq
/-- the third is new -/
theorem Kn.ow3 {a b D : Addr} {o1 o2 o3 : HO} (kn : Kn H0 [a, b] R H ((a, o1) :: (b, o2) :: (D, o3) :: L) T P) : H0 D = none := by
  have nd := kn.nd
  simp only [List.map_cons, List.nodup_cons, List.mem_cons, not_or] at nd
  obtain ⟨⟨_, h2, _⟩, ⟨h4, _⟩, _⟩ := nd
  rcases kn.own (D, o3) (by simp) with w | w
  · rcases List.mem_cons.mp w with e | w
    · exact absurd e.symm h2
    · exact absurd (by simpa using w : D = b).symm h4
  · exact w
/-- a new object behind the first two -/
theorem Kn.sw {x y z : Addr × HO} (kn : Kn H0 M R H (x :: y :: z :: L) T P) : Kn H0 M R H (y :: z :: x :: L) T P := by
  refine kn.obs ?_ fun q hq => ?_
  · have nd := kn.nd
    simp only [List.map_cons, List.nodup_cons, List.mem_cons, not_or] at nd ⊢
    obtain ⟨⟨h1, h2, h3⟩, ⟨h4, h5⟩, h6, h7⟩ := nd
    exact ⟨⟨h4, fun e => h1 e.symm, h5⟩, ⟨fun e => h2 e.symm, h6⟩, h3, h7⟩
  · simp only [List.mem_cons] at hq ⊢
    rcases hq with e | e | e | e
    · exact .inr (.inl e)
    · exact .inr (.inr (.inl e))
    · exact .inl e
    · exact .inr (.inr (.inr e))
/-- the first two behind the next two -/
theorem Kn.sw2 {x y z u : Addr × HO} (kn : Kn H0 M R H (x :: y :: z :: u :: L) T P) : Kn H0 M R H (z :: u :: x :: y :: L) T P := by
  refine kn.obs ?_ fun q hq => ?_
  · have nd := kn.nd
    simp only [List.map_cons, List.nodup_cons, List.mem_cons, not_or] at nd ⊢
    obtain ⟨⟨h1, h2, h3, h4⟩, ⟨h5, h6, h7⟩, ⟨h8, h9⟩, h10, h11⟩ := nd
    exact ⟨⟨h8, fun e => h2 e.symm, fun e => h5 e.symm, h9⟩, ⟨fun e => h3 e.symm, fun e => h6 e.symm, h10⟩, ⟨h1, h4⟩, h7, h11⟩
  · simp only [List.mem_cons] at hq ⊢
    rcases hq with e | e | e | e | e
    · exact .inr (.inr (.inl e))
    · exact .inr (.inr (.inr (.inl e)))
    · exact .inl e
    · exact .inr (.inl e)
    · exact .inr (.inr (.inr (.inr e)))
/-- the third object is left out -/
theorem Kn.drop3 {x y z : Addr × HO} (kn : Kn H0 M R H (x :: y :: z :: L) T P) : Kn H0 M R H (x :: y :: L) T P := by
  refine kn.obs ?_ fun q hq => ?_
  · have nd := kn.nd
    simp only [List.map_cons, List.nodup_cons, List.mem_cons, not_or] at nd ⊢
    obtain ⟨⟨h1, h2, h3⟩, ⟨h4, h5⟩, h6, h7⟩ := nd
    exact ⟨⟨h1, h3⟩, h5, h7⟩
  · simp only [List.mem_cons] at hq ⊢
    rcases hq with e | e | e
    · exact .inl e
    · exact .inr (.inl e)
    · exact .inr (.inr (.inr e))
/-- the beginning -/
theorem Kn.start {H0 : Hp} {M : List Addr} {R L : Obs} {T : Tps} {P : Hp → Prop} (hR : ∀ p ∈ R, H0 p.1 = some p.2 ∧ p.1 ∉ M) (nd : (L.map (·.1)).Nodup) (nt : ∀ p ∈ L, isTup p.2 = false) (ha : ∀ p ∈ L, H0 p.1 = some p.2) (hM : ∀ p ∈ L, p.1 ∈ M)
    (ta : ∀ q ∈ T, H0 q.1 = some (.tup q.2)) (pp : P H0) (mono : Mono P) : Kn H0 M R H0 L T P := ⟨.refl M H0, hR, nd, nt, ha, fun p hp => .inl (hM p hp), ta, pp, mono⟩
theorem mono_true : Mono (fun _ => True) := fun _ _ _ _ => trivial
theorem Kn.start0 {H0 : Hp} : Kn H0 [] [] H0 [] [] (fun _ => True) := .start (by simp) (by simp) (by simp) (by simp) (by simp) (by simp) trivial mono_true
/-- owned objects by their places -/
theorem nodup_fm {α : Type} {L : List α} (nd : L.Nodup) : ∀ {is : List Nat}, is.Nodup → (is.filterMap fun i => L[i]?).Nodup
  | [], _ => List.nodup_nil
  | i :: is, h => by
    obtain ⟨h1, h2⟩ := List.nodup_cons.mp h
    have ih := nodup_fm nd h2
    rw [List.filterMap_cons]
    cases e : L[i]? with
    | none => exact ih
    | some x =>
      refine List.nodup_cons.mpr ⟨fun z => ?_, ih⟩
      obtain ⟨j, hj, e2⟩ := List.mem_filterMap.mp z
      have : i = j := nd_ix nd e e2
      rw [this] at h1
      exact h1 hj
theorem map_fm (L : Obs) : ∀ is : List Nat, (is.filterMap fun i => L[i]?).map (·.1) = is.filterMap fun i => (L.map (·.1))[i]?
  | [] => rfl
  | i :: is => by
    rw [List.filterMap_cons, List.filterMap_cons, List.getElem?_map]
    cases L[i]? with
    | none => exact map_fm L is
    | some x => exact congrArg (x.1 :: ·) (map_fm L is)
theorem Kn.pm (kn : Kn H0 M R H L T P) (is : List Nat) (hi : is.Nodup) : Kn H0 M R H (is.filterMap fun i => L[i]?) T P := by
  refine kn.obs ?_ fun q hq => ?_
  · rw [map_fm]
    exact nodup_fm kn.nd hi
  · obtain ⟨i, _, e⟩ := List.mem_filterMap.mp hq
    exact List.mem_of_getElem? e
theorem Kn.pmn (kn : Kn H0 M R H L T P) (n : Nat) (is : List Nat) (hi : is.Nodup) (hn : ∀ i ∈ is, i < n) : Kn H0 M R H ((is.filterMap fun i => L[i]?) ++ L.drop n) T P := by
  refine kn.obs ?_ fun q hq => ?_
  · rw [List.map_append, map_fm]
    refine List.nodup_append.mpr ⟨nodup_fm kn.nd hi, ?_, fun a ha b hb e => ?_⟩
    · rw [List.map_drop]; exact kn.nd.sublist (List.drop_sublist _ _)
    · subst e
      obtain ⟨i, h1, h2⟩ := List.mem_filterMap.mp ha
      rw [List.map_drop] at hb
      obtain ⟨j, h3, h4⟩ := List.mem_drop_iff_getElem.mp hb
      have h5 : (L.map (·.1))[n + j]? = some a := by
        rw [List.getElem?_eq_getElem (by omega), h4]
      have := nd_ix kn.nd h2 h5
      have := hn i h1
      omega
  · rcases List.mem_append.mp hq with hq | hq
    · obtain ⟨i, _, e⟩ := List.mem_filterMap.mp hq
      exact List.mem_of_getElem? e
    · exact List.mem_of_mem_drop hq
theorem Kn.start0T {H0 : Hp} {T : Tps} (h : ∀ q ∈ T, H0 q.1 = some (.tup q.2)) : Kn H0 [] [] H0 [] T (fun _ => True) := Kn.start0.tps h
theorem Kn.start1 {H0 : Hp} {a : Addr} {xs : List V} (h : H0 a = some (.tup xs)) : Kn H0 [] [] H0 [] [(a, xs)] (fun _ => True) := Kn.start0T fun q hq => by
  have e : q = (a, xs) := by simpa using hq
  rw [e]
  exact h
/-! looks -/
theorem Kn.l (kn : Kn H0 M R H L T P) (i : Nat) (hi : L[i]? = some (p, o)) : H p = some o := kn.ats _ (List.mem_of_getElem? hi)
theorem Kn.r (kn : Kn H0 M R H L T P) (i : Nat) (hi : R[i]? = some (p, o)) : H p = some o := by
  obtain ⟨a, b⟩ := kn.ro _ (List.mem_of_getElem? hi)
  exact kn.fr.keep _ _ a b
theorem Kn.t (kn : Kn H0 M R H L T P) (i : Nat) (hi : T[i]? = some (p, xs)) : H p = some (.tup xs) := kn.ta _ (List.mem_of_getElem? hi)
theorem Kn.ow {H0 H : Hp} {R L : Obs} {T : Tps} {P : Hp → Prop} {p : Addr} {o : HO} (kn : Kn H0 [] R H L T P) (j : Nat) (hj : L[j]? = some (p, o)) : H0 p = none := by
  rcases kn.own _ (List.mem_of_getElem? hj) with z | z
  · cases z
  · exact z
theorem Kn.ne (kn : Kn H0 M R H L T P) {q : Addr} {u : HO} (i j : Nat) (hi : L[i]? = some (p, o)) (hj : L[j]? = some (q, u)) (hij : i ≠ j) : p ≠ q := fun e => hij (nodup_get kn.nd hi hj e)
end
end Hue
set_option Elab.async false
set_option linter.all false
set_option maxRecDepth 100000
set_option maxHeartbeats 4000000
set_option autoImplicit false
namespace Hue
open PySem PySem.Spec PyProof.Rows L2
/-! ### readings, one step at a time -/
def kIf (c : Bool) (A B : Prop) : Prop := if c = true then A else B
theorem kIf_t {A B : Prop} (h : A) : kIf true A B := h
theorem kIf_f {A B : Prop} (h : B) : kIf false A B := by
  show (if false = true then A else B)
  rw [if_neg Bool.false_ne_true]
  exact h
theorem kIf_2 {c : Bool} {A B : Prop} (h1 : c = true → A) (h2 : c = false → B) : kIf c A B := by
  cases c with
  | true => exact kIf_t (h1 rfl)
  | false => exact kIf_f (h2 rfl)
theorem kIf_d {p A B : Prop} [Decidable p] (h1 : p → A) (h2 : ¬ p → B) : kIf (decide p) A B :=
  kIf_2 (fun e => h1 (of_decide_eq_true e)) fun e => h2 (of_decide_eq_false e)
theorem kIf_nd {p A B : Prop} [Decidable p] (h1 : ¬ p → A) (h2 : p → B) : kIf (!decide p) A B :=
  kIf_2 (fun e => h1 (by simpa using e)) fun e => h2 (by simpa using e)
theorem kIf_n {c : Bool} {A B : Prop} (h : kIf c B A) : kIf (!c) A B := by
  cases c with
  | true => exact kIf_f h
  | false => exact kIf_t (by
      have h' : (if false = true then B else A) := h
      rw [if_neg Bool.false_ne_true] at h'
      exact h')
theorem kIf_y {c : Bool} {A B : Prop} (e : c = true) (h : A) : kIf c A B := by
  rw [e]
  exact h
theorem kIf_no {c : Bool} {A B : Prop} (e : c = false) (h : B) : kIf c A B := by
  rw [e]
  exact kIf_f h
def kB (x : V) (F : Bool → Prop) : Prop := ∃ c, x = .bl c ∧ F c
theorem w_kB {c : Bool} {F : Bool → Prop} (h : F c) : kB (.bl c) F := ⟨c, rfl, h⟩
section
variable {σ : L2.St} {H : Hp} {Q : VK} {A : TA} {t u : TS} {n : L2.St → Hp → Prop} {r : VK} {b c : L2.St → Hp → Prop} {ta tb tc : TE} {tt tu : TT} {QT : Bool → Hp → Prop} {v x y z : V} {K : PySem.W.Frag}
theorem w_seq (h : t ⟨u ⟨n, r, b, c⟩, r, b, c⟩ σ H) : tSeq t u ⟨n, r, b, c⟩ σ H := h
theorem w_asg {i : Nat} (h : ta σ H fun x H1 => n (σ.set i (some x)) H1) : tAsg ta (gName i) ⟨n, r, b, c⟩ σ H := h
theorem w_asgG {g : TG} (h : ta σ H fun x H1 => g x σ H1 n) : tAsg ta g ⟨n, r, b, c⟩ σ H := h
theorem w_ret (h : ta σ H r) : tRet ta ⟨n, r, b, c⟩ σ H := h
theorem w_retN (h : r .non H) : tRetN ⟨n, r, b, c⟩ σ H := h
theorem w_drop (h : ta σ H fun _ H1 => n σ H1) : tDrop ta ⟨n, r, b, c⟩ σ H := h
theorem w_next (h : n σ H) : tNext ⟨n, r, b, c⟩ σ H := h
theorem w_if (h : tt σ H fun k H1 => kIf k (t ⟨n, r, b, c⟩ σ H1) (u ⟨n, r, b, c⟩ σ H1)) : tIfS tt t u ⟨n, r, b, c⟩ σ H := h
theorem w_var {i : Nat} (e : σ[i]? = some (some v)) (h : Q v H) : tVar i σ H Q := ⟨v, e, h⟩
theorem w_c (h : Q v H) : tC v σ H Q := h
theorem w_op {ro : R2} (h : ta σ H fun x H1 => tb σ H1 fun y H2 => ro x y H2 Q) : tOp ro ta tb σ H Q := h
theorem w_un {ro : V → Hp → VK → Prop} (h : ta σ H fun x H1 => ro x H1 Q) : tUn ro ta σ H Q := h
theorem w_test (h : ta σ H fun x H1 => kB x fun k => QT k H1) : tTest ta σ H QT := h
theorem w_tB (h : ta σ H fun x H1 => kB x fun k => QT k H1) : tB ta σ H QT := h
theorem w_and (h : tt σ H fun k H1 => kIf k (tu σ H1 QT) (QT false H1)) : tAnd tt tu σ H QT := h
theorem w_or (h : tt σ H fun k H1 => kIf k (QT true H1) (tu σ H1 QT)) : tOr tt tu σ H QT := h
theorem w_not (h : tt σ H fun k H1 => QT (!k) H1) : tNot tt σ H QT := h
theorem w_andV (h : ta σ H fun x H1 => kB x fun k => kIf k (tb σ H1 Q) (Q (.bl false) H1)) : tAndV ta tb σ H Q := h
theorem w_orV (h : ta σ H fun x H1 => kB x fun k => kIf k (Q (.bl true) H1) (tb σ H1 Q)) : tOrV ta tb σ H Q := h
theorem w_notV (h : ta σ H fun x H1 => kB x fun k => Q (.bl (!k)) H1) : tNotV ta σ H Q := h
theorem w_ifE (h : tt σ H fun k H1 => kIf k (ta σ H1 Q) (tb σ H1 Q)) : tIf tt ta tb σ H Q := h
theorem w_chain {r1 r2 : R2} (h : ta σ H fun x H1 => tb σ H1 fun y H2 => r1 x y H2 fun z H3 => kB z fun k => kIf k (tc σ H3 fun w' H4 => r2 y w' H4 Q) (Q (.bl false) H3)) : tChain r1 r2 ta tb tc σ H Q := h
theorem w_nil {Q : List V → Hp → Prop} (h : Q [] H) : tNil σ H Q := h
theorem w_cons {Q : List V → Hp → Prop} (h : ta σ H fun x H1 => A σ H1 fun xs H2 => Q (x :: xs) H2) : tCons ta A σ H Q := h
def kTup (xs : List V) (H : Hp) (Q : VK) : Prop := xs.length ≤ sizeLine ∧ ∀ p, H p = none → Q (.ref p) (upd H p (.tup xs))
def kLst (xs : List V) (H : Hp) (Q : VK) : Prop := xs.length ≤ sizeLine ∧ ∀ p, H p = none → Q (.ref p) (upd H p (.lst xs))
theorem w_tup (h : A σ H fun xs H1 => kTup xs H1 Q) : tTup A σ H Q := h
theorem w_lst (h : A σ H fun xs H1 => kLst xs H1 Q) : tLst A σ H Q := h
theorem w_cb {ro : List V → Hp → VK → Prop} (h : A σ H fun xs H1 => ro xs H1 Q) : tCB ro A σ H Q := h
def kAnd (X A : Prop) : Prop := X ∧ A
theorem w_bm {T : String} {ro : V → List V → Hp → VK → Prop} (h : ta σ H fun x H1 => kAnd (tyV K T x H1) (A σ H1 fun xs H2 => ro x xs H2 Q)) : tBM K T ro ta A σ H Q := h
theorem w_bm0 {T : String} {ro : V → List V → Hp → VK → Prop} (h : ta σ H fun x H1 => kAnd (tyV K T x H1) (ro x [] H1 Q)) : tBM0 K T ro ta σ H Q := h
theorem w_tyL {p : Addr} {xs : List V} {Z : Prop} (hp : H p = some (.lst xs)) (h : Z) : kAnd (tyV K "list" (.ref p) H) Z := ⟨.inl ⟨rfl, xs, SqL.of hp⟩, h⟩
/-! numbers, tests -/
theorem w_rI0 {g : Int → Int → V} {i j : Int} (h : Q (g i j) H) : rI0 g (.int i) (.int j) H Q := ⟨i, j, rfl, rfl, h⟩
theorem w_rI {C : Int → Int → Prop} {g : Int → Int → V} {i j : Int} (hc : C i j) (h : Q (g i j) H) : rI C g (.int i) (.int j) H Q := ⟨i, j, rfl, rfl, hc, h⟩
theorem w_rU {g : Int → V} {i : Int} (h : Q (g i) H) : rU g (.int i) H Q := ⟨i, rfl, h⟩
theorem w_eqI {i j : Int} (h : Q (.bl (decide (i = j))) H) : rEq (.int i) (.int j) H Q := ⟨rfl, by
  have e : decide (V.int i = V.int j) = decide (i = j) := by
    rw [dec_int, Bool.beq_eq_decide_eq]
  rw [e]
  exact h⟩
theorem w_neI {i j : Int} (h : Q (.bl (!decide (i = j))) H) : rNe (.int i) (.int j) H Q := ⟨rfl, by
  have e : decide (V.int i = V.int j) = decide (i = j) := by
    rw [dec_int, Bool.beq_eq_decide_eq]
  rw [e]
  exact h⟩
theorem w_eqS {i j : Str} {k : Bool} (e : decide (i = j) = k) (h : Q (.bl k) H) : rEq (.str i) (.str j) H Q := ⟨rfl, by
  have e2 : decide (V.str i = V.str j) = k := by
    rw [dec_str, Bool.beq_eq_decide_eq]
    exact e
  rw [e2]
  exact h⟩
theorem w_eqS_t {i : Str} (h : Q (.bl true) H) : rEq (.str i) (.str i) H Q := w_eqS (decide_eq_true rfl) h
theorem w_eqS_f {i j : Str} (e : decide (i = j) = false) (h : Q (.bl false) H) : rEq (.str i) (.str j) H Q := w_eqS e h
theorem w_neS {i j : Str} {k : Bool} (e : decide (i = j) = k) (h : Q (.bl (!k)) H) : rNe (.str i) (.str j) H Q := ⟨rfl, by
  have e2 : decide (V.str i = V.str j) = k := by
    rw [dec_str, Bool.beq_eq_decide_eq]
    exact e
  rw [e2]
  exact h⟩
theorem w_neS_f {i : Str} (h : Q (.bl false) H) : rNe (.str i) (.str i) H Q := w_neS (k := true) (decide_eq_true rfl) h
theorem w_neS_t {i j : Str} (e : decide (i = j) = false) (h : Q (.bl true) H) : rNe (.str i) (.str j) H Q := w_neS (k := false) e h
theorem w_eqIS {i : Int} {j : Str} (h : Q (.bl false) H) : rEq (.int i) (.str j) H Q := ⟨rfl, by
  have e : decide (V.int i = V.str j) = false := decide_eq_false (by intro z; cases z)
  rw [e]
  exact h⟩
theorem w_isN_n (h : Q (.bl true) H) : rIsN .non .non H Q := ⟨rfl, h⟩
theorem w_isN_i {i : Int} (h : Q (.bl false) H) : rIsN (.int i) .non H Q := ⟨rfl, h⟩
theorem w_isN_r {i : Addr} (h : Q (.bl false) H) : rIsN (.ref i) .non H Q := ⟨rfl, h⟩
theorem w_notN_n (h : Q (.bl false) H) : rNotN .non .non H Q := ⟨rfl, h⟩
theorem w_notN_i {i : Int} (h : Q (.bl true) H) : rNotN (.int i) .non H Q := ⟨rfl, h⟩
theorem w_notN_r {i : Addr} (h : Q (.bl true) H) : rNotN (.ref i) .non H Q := ⟨rfl, h⟩
/-! sequences -/
theorem w_ixT {p : Addr} {xs : List V} {i : Int} (hp : SqT K H p xs) (e : atI xs i = some v) (h : Q v H) : rIxT K (.ref p) (.int i) H Q := ⟨p, xs, i, v, rfl, rfl, hp, e, h⟩
theorem w_ixL {p : Addr} {xs : List V} {i : Int} (hp : SqL K H p xs) (e : atI xs i = some v) (h : Q v H) : rIxL K (.ref p) (.int i) H Q := ⟨p, xs, i, v, rfl, rfl, hp, e, h⟩
def rLn (K : PySem.W.Frag) : List V → Hp → VK → Prop := fun xs H Q => ∃ p ys, xs = [.ref p] ∧ (SqL K H p ys ∨ SqT K H p ys) ∧ Q (.int ys.length) H
theorem cr_len {X : Cx} : CallR X (.builtin "len") (rLn X.K) := call_len_seq
theorem w_len {p : Addr} {xs : List V} (hp : SqL K H p xs ∨ SqT K H p xs) (h : Q (.int xs.length) H) : rLn K [.ref p] H Q := ⟨p, xs, rfl, hp, h⟩
def rInt1 : List V → Hp → VK → Prop := fun xs H Q => (∃ i, xs = [.int i] ∧ Q (.int i) H) ∨ ∃ k, xs = [.bl k] ∧ Q (.int (if k then 1 else 0)) H
theorem cr_int {X : Cx} : CallR X (.type "int") rInt1 := call_int1
theorem w_int {i : Int} (h : Q (.int i) H) : rInt1 [.int i] H Q := .inl ⟨i, rfl, h⟩
theorem w_intB {k : Bool} (h : Q (.int (if k then 1 else 0)) H) : rInt1 [.bl k] H Q := .inr ⟨k, rfl, h⟩
def rAbs : List V → Hp → VK → Prop := fun xs H Q => ∃ i, xs = [.int i] ∧ Q (.int (if i < 0 then -i else i)) H
theorem cr_abs {X : Cx} : CallR X (.builtin "abs") rAbs := call_abs
theorem w_abs {i : Int} (h : Q (.int (if i < 0 then -i else i)) H) : rAbs [.int i] H Q := ⟨i, rfl, h⟩
def rMin2 : List V → Hp → VK → Prop := fun xs H Q => ∃ i j, xs = [.int i, .int j] ∧ Q (.int (if j < i then j else i)) H
theorem cr_min2 {X : Cx} (hc : X.calm = true) : CallR X (.builtin "min") rMin2 := call_min2 hc
theorem w_min2 {i j : Int} (h : Q (.int (if j < i then j else i)) H) : rMin2 [.int i, .int j] H Q := ⟨i, j, rfl, h⟩
def rTupOf (K : PySem.W.Frag) : List V → Hp → VK → Prop := fun xs H Q => ∃ p ys, xs = [.ref p] ∧ ((SqL K H p ys ∧ ∀ l, H l = none → Q (.ref l) (upd H l (.tup ys))) ∨ (SqT K H p ys ∧ Q (.ref p) H))
theorem cr_tup {X : Cx} : CallR X (.type "tuple") (rTupOf X.K) := call_tuple_of
def rLstOf (K : PySem.W.Frag) : List V → Hp → VK → Prop := fun xs H Q => ∃ p ys, xs = [.ref p] ∧ (SqL K H p ys ∨ SqT K H p ys) ∧ ∀ l, H l = none → Q (.ref l) (upd H l (.lst ys))
theorem cr_lst {X : Cx} : CallR X (.type "list") (rLstOf X.K) := call_list_of
theorem w_sum {p : Addr} {ns : List Int} (hp : SqL K H p (ns.map V.int)) (h : Q (.int ns.sum) H) : rSum K [.ref p] H Q := ⟨p, ns, rfl, hp, h⟩
theorem w_in {p : Addr} {xs : List V} {neg k : Bool} (hp : SqL K H p xs ∨ SqT K H p xs) (hx : flatV x = true) (ha : xs.all flatV = true) (e : (if neg then !inV x xs else inV x xs) = k) (h : Q (.bl k) H) : rIn K neg x (.ref p) H Q :=
  ⟨p, xs, rfl, hp, hx, ha, by rw [e]; exact h⟩
/-! isinstance -/
theorem w_isi {a b : String} {k : Bool} (hx : TyX K H x (.type a)) (e : kitB a b = some k) (h : Q (.bl k) H) : rIsi K [x, .ty b] H Q := ⟨x, .ty b, .type a, .type b, k, rfl, .ty b, hx, kit_ty e, h⟩
theorem ty_n : TyX K H .non (.type "NoneType") := .base .non
theorem ty_b {k : Bool} : TyX K H (.bl k) (.type "bool") := .base (.bl k)
theorem ty_i {i : Int} : TyX K H (.int i) (.type "int") := .base (.int i)
theorem ty_s {i : Str} : TyX K H (.str i) (.type "str") := .base (.str i)
theorem ty_t {p : Addr} {xs : List V} (h : H p = some (.tup xs)) : TyX K H (.ref p) (.type "tuple") := .base (.tup h)
theorem ty_l {p : Addr} {xs : List V} (h : H p = some (.lst xs)) : TyX K H (.ref p) (.type "list") := .base (.lst h)
theorem k_ii : kitB "int" "int" = some true := by decide +kernel
theorem k_ib : kitB "int" "bool" = some false := by decide +kernel
theorem k_is : kitB "int" "str" = some false := by decide +kernel
theorem k_it : kitB "int" "tuple" = some false := by decide +kernel
theorem k_bi : kitB "bool" "int" = some true := by decide +kernel
theorem k_bb : kitB "bool" "bool" = some true := by decide +kernel
theorem k_si : kitB "str" "int" = some false := by decide +kernel
theorem k_ss : kitB "str" "str" = some true := by decide +kernel
theorem k_st : kitB "str" "tuple" = some false := by decide +kernel
theorem k_tt : kitB "tuple" "tuple" = some true := by decide +kernel
theorem k_ti : kitB "tuple" "int" = some false := by decide +kernel
theorem k_ts : kitB "tuple" "str" = some false := by decide +kernel
theorem k_li : kitB "list" "int" = some false := by decide +kernel
theorem k_lt : kitB "list" "tuple" = some false := by decide +kernel
theorem k_nt : kitB "NoneType" "tuple" = some false := by decide +kernel
theorem k_ni : kitB "NoneType" "int" = some false := by decide +kernel
theorem k_ns : kitB "NoneType" "str" = some false := by decide +kernel
end
/-! ### new objects and stores over what is known -/
section
variable {H0 H : Hp} {M : List Addr} {R L : Obs} {T : Tps} {P : Hp → Prop} {p : Addr} {o : HO} {xs : List V} {Q : VK} {K : PySem.W.Frag} {x y v : V}
theorem w_kTup (kn : Kn H0 M R H L T P) (e : Nat.ble xs.length 1000 = true) (h : ∀ p H', Kn H0 M R H' L ((p, xs) :: T) P → Q (.ref p) H') : kTup xs H Q :=
  ⟨Nat.le_trans (Nat.le_of_ble_eq_true e) (by decide), fun p hp => h p _ (kn.tup xs hp)⟩
theorem w_kLst (kn : Kn H0 M R H L T P) (e : Nat.ble xs.length 1000 = true) (h : ∀ p H', Kn H0 M R H' ((p, .lst xs) :: L) T P → Q (.ref p) H') : kLst xs H Q :=
  ⟨Nat.le_trans (Nat.le_of_ble_eq_true e) (by decide), fun p hp => h p _ (kn.new (.lst xs) hp rfl)⟩
theorem w_append (kn : Kn H0 M R H L T P) (j : Nat) (hj : L[j]? = some (p, .lst xs)) (hs : xs.length ≤ 100000) (h : ∀ H', Kn H0 M R H' (L.set j (p, .lst (xs ++ [y]))) T P → Q .non H') : rAppend (.ref p) [y] H Q :=
  ⟨p, xs, y, rfl, rfl, kn.l j hj, Nat.lt_of_le_of_lt hs (by decide), h _ (kn.put _ hj rfl)⟩
theorem w_setL (kn : Kn H0 M R H L T P) (j : Nat) (hj : L[j]? = some (p, .lst xs)) {i : Int} {m : Nat} {Z : Hp → Prop} (hi : ixN xs.length i = some m) (h : ∀ H', Kn H0 M R H' (L.set j (p, .lst (xs.set m v))) T P → Z H') : rSetL (.ref p) (.int i) v H Z :=
  ⟨p, xs, i, m, rfl, rfl, kn.l j hj, hi, h _ (kn.put _ hj rfl)⟩
theorem w_tupOfL (kn : Kn H0 M R H L T P) (hp : SqL K H p xs) (h : ∀ l H', Kn H0 M R H' L ((l, xs) :: T) P → Q (.ref l) H') : rTupOf K [.ref p] H Q := ⟨p, xs, rfl, .inl ⟨hp, fun l hl => h l _ (kn.tup xs hl)⟩⟩
theorem w_tupOfT (hp : SqT K H p xs) (h : Q (.ref p) H) : rTupOf K [.ref p] H Q := ⟨p, xs, rfl, .inr ⟨hp, h⟩⟩
theorem w_lstOf (kn : Kn H0 M R H L T P) (hp : SqL K H p xs ∨ SqT K H p xs) (h : ∀ l H', Kn H0 M R H' ((l, .lst xs) :: L) T P → Q (.ref l) H') : rLstOf K [.ref p] H Q := ⟨p, xs, rfl, hp, fun l hl => h l _ (kn.new (.lst xs) hl rfl)⟩
theorem w_pop (kn : Kn H0 M R H L T P) (j : Nat) {i : Int} {m : Nat} (hj : L[j]? = some (p, .lst xs)) (h1 : -(2 ^ 63) ≤ i) (h2 : i < 2 ^ 63) (hi : seqIndex? i xs.length = some m) (hy : xs[m]? = some y) (h : ∀ H', Kn H0 M R H' (L.set j (p, .lst (xs.eraseIdx m))) T P → Q y H') : rPopAt (.ref p) [.int i] H Q :=
  ⟨p, xs, i, m, y, rfl, rfl, kn.l j hj, h1, h2, hi, hy, h _ (kn.put _ hj rfl)⟩
theorem w_extend (kn : Kn H0 M R H L T P) (j : Nat) {q : Addr} {ys : List V} (hj : L[j]? = some (p, .lst xs)) (hq : H q = some (.lst ys)) (hs : xs.length + ys.length ≤ 100000) (h : ∀ H', Kn H0 M R H' (L.set j (p, .lst (xs ++ ys))) T P → Q .non H') : rExtend (.ref p) [.ref q] H Q :=
  ⟨p, q, xs, ys, rfl, rfl, kn.l j hj, hq, Nat.le_trans hs (by decide), h _ (kn.put _ hj rfl)⟩
theorem w_cat (kn : Kn H0 M R H L T P) {q : Addr} {ys : List V} (hp : H p = some (.lst xs)) (hq : H q = some (.lst ys)) (hs : xs.length + ys.length ≤ 100000) (h : ∀ l H', Kn H0 M R H' ((l, .lst (xs ++ ys)) :: L) T P → Q (.ref l) H') : rCat (.ref p) (.ref q) H Q :=
  ⟨p, q, xs, ys, rfl, rfl, hp, hq, Nat.le_trans hs (by decide), fun l hl => h l _ (kn.new _ hl rfl)⟩
theorem w_catT (kn : Kn H0 M R H L T P) {q : Addr} {ys : List V} (hp : SqT K H p xs) (hq : SqT K H q ys) (hs : xs.length + ys.length ≤ 100000) (hx : xs ≠ []) (hy : ys ≠ []) (h : ∀ l H', Kn H0 M R H' L ((l, xs ++ ys) :: T) P → Q (.ref l) H') : rCatA K (.ref p) (.ref q) H Q :=
  ⟨p, q, xs, ys, rfl, rfl, hp, hq, Nat.le_trans hs (by decide), fun e => absurd e hx, fun _ e => absurd e hy, fun _ _ l hl => h l _ (kn.tup _ hl)⟩
theorem w_catT0 {q : Addr} (hp : SqT K H p xs) (hq : SqT K H q []) (hs : xs.length ≤ 100000) (hx : xs ≠ []) (h : Q (.ref p) H) : rCatA K (.ref p) (.ref q) H Q :=
  ⟨p, q, xs, [], rfl, rfl, hp, hq, Nat.le_trans hs (by decide), fun e => absurd e hx, fun _ _ => h, fun _ e => absurd rfl e⟩
theorem w_slT (kn : Kn H0 M R H L T P) {lo hi : Option Int} (hp : SqT K H p xs) (hn : ¬ (HT.sIx xs.length 0 lo = 0 ∧ HT.sIx xs.length xs.length hi = xs.length)) (h : ∀ l H', Kn H0 M R H' L ((l, cutV xs lo hi) :: T) P → Q (.ref l) H') : rSlA K (.ref p) lo hi H Q :=
  ⟨p, xs, rfl, hp, fun z => absurd z hn, fun _ l hl => h l _ (kn.tup _ hl)⟩
theorem w_slL (kn : Kn H0 M R H L T P) {lo hi : Option Int} (hp : SqL K H p xs) (h : ∀ l H', Kn H0 M R H' ((l, .lst (cutV xs lo hi)) :: L) T P → Q (.ref l) H') : rSlL K (.ref p) lo hi H Q :=
  ⟨p, xs, rfl, hp, fun l hl => h l _ (kn.new _ hl rfl)⟩
theorem w_sl {ro : V → Option Int → Option Int → Hp → VK → Prop} {te : TE} {tl th : TO} {σ : L2.St} (h : te σ H fun x H1 => tl σ H1 fun l H2 => th σ H2 fun u H3 => ro x l u H3 Q) : tSl ro te tl th σ H Q := h
theorem w_noPart {σ : L2.St} {Q : Option Int → Hp → Prop} (h : Q none H) : tNoPart σ H Q := h
def kPart (x : V) (H : Hp) (Q : Option Int → Hp → Prop) : Prop := ∃ i, x = .int i ∧ Q (some i) H
theorem w_part {te : TE} {σ : L2.St} {Q : Option Int → Hp → Prop} (h : te σ H fun x H1 => kPart x H1 Q) : tPart te σ H Q := h
theorem w_kPart {i : Int} {Q : Option Int → Hp → Prop} (h : Q (some i) H) : kPart (.int i) H Q := ⟨i, rfl, h⟩
end
/-! ### targets, loops, comprehensions -/
section
variable {σ : L2.St} {H H1 : Hp} {Q : VK} {A : TA} {t u : TS} {n : L2.St → Hp → Prop} {r : VK} {b c : L2.St → Hp → Prop} {ta tl te : TE} {tt : TT} {v w : V} {K : PySem.W.Frag} {g : TG} {gs : TGs} {Z : L2.St → Hp → Prop} {a : Addr} {xs : List V} {tb : TS} {vs : List Nat}
def kTwo (vs : List V) (F : V → V → Prop) : Prop := ∃ v w, vs = [v, w] ∧ F v w
def kThree (vs : List V) (F : V → V → V → Prop) : Prop := ∃ u v w, vs = [u, v, w] ∧ F u v w
theorem w_par {i j : Nat} (h : A σ H fun vs H1 => kTwo vs fun v w => n ((σ.set i (some v)).set j (some w)) H1) : tPar i j A ⟨n, r, b, c⟩ σ H := h
theorem w_kTwo {F : V → V → Prop} (h : F v w) : kTwo [v, w] F := ⟨v, w, rfl, h⟩
theorem w_par3 {i j l : Nat} (h : A σ H fun vs H1 => kThree vs fun u v w => n (((σ.set i (some u)).set j (some v)).set l (some w)) H1) : tPar3 i j l A ⟨n, r, b, c⟩ σ H := h
theorem w_kThree {x : V} {F : V → V → V → Prop} (h : F x v w) : kThree [x, v, w] F := ⟨x, v, w, rfl, h⟩
theorem w_gName {i : Nat} (h : Z (σ.set i (some v)) H) : gName i v σ H Z := h
theorem w_gTup {k : Nat} (hp : SqT K H a xs) (hl : xs.length = k) (h : gs xs σ H Z) : gTup K k gs (.ref a) σ H Z := ⟨a, xs, rfl, hp, hl, h⟩
theorem w_gLst {k : Nat} (hp : SqL K H a xs) (hl : xs.length = k) (h : gs xs σ H Z) : gLst K k gs (.ref a) σ H Z := ⟨a, xs, rfl, hp, hl, h⟩
theorem w_gNil (h : Z σ H) : gNil [] σ H Z := ⟨rfl, h⟩
theorem w_gCons (h : g v σ H fun σ' H' => gs xs σ' H' Z) : gCons g gs (v :: xs) σ H Z := ⟨v, xs, rfl, h⟩
theorem w_gSub {to ti : TE} {ts : TSet} (h : to σ H fun o H1 => ti σ H1 fun i H2 => ts o i v H2 fun H3 => Z σ H3) : gSub to ti ts v σ H Z := h
/-- a loop over what J walks -/
def kFor (J : It) (H1 : Hp) (g : TG) (tb : TS) (D : Ends) (σ : L2.St) : Prop := ∃ W : Nat → Nat → L2.St → Hp → Prop, (∃ m, W 0 m σ H1) ∧ ∀ i m σ H, W i m σ H →
  (J.stop i H ∧ D.nx σ H) ∨ (J.go i H ∧ ∃ N : L2.St → Hp → Prop, (∀ σ' H', N σ' H' → ∃ m', m' < m ∧ W (i + 1) m' σ' H') ∧ ∀ x H', J.yld i H x H' → g x σ H' fun σ2 H2 => tb { D with nx := N, ct := N, bk := D.nx } σ2 H2)
theorem w_for {wi : TI} (h : wi σ H fun J H1 => kFor J H1 g tb ⟨n, r, b, c⟩ σ) : tFor wi g tb ⟨n, r, b, c⟩ σ H := h
def kIL (K : PySem.W.Frag) (x : V) (H1 : Hp) (R : It → Hp → Prop) : Prop := ∃ a, x = .ref a ∧ (∃ xs, SqL K H1 a xs) ∧ R (Itl K a) H1
def kIT (K : PySem.W.Frag) (x : V) (H1 : Hp) (R : It → Hp → Prop) : Prop := ∃ a, x = .ref a ∧ (∃ xs, SqT K H1 a xs) ∧ R (Itt K a) H1
theorem w_iL {R : It → Hp → Prop} (h : tl σ H fun x H1 => kIL K x H1 R) : iList K tl σ H R := h
theorem w_iT {R : It → Hp → Prop} (h : tl σ H fun x H1 => kIT K x H1 R) : iTup K tl σ H R := h
def kIR (vs : List V) (H1 : Hp) (R : It → Hp → Prop) : Prop := ∃ j : Int, vs = [.int j] ∧ -(2 ^ 62) ≤ j ∧ j < 2 ^ 62 ∧ R (Itr 0 j.toNat) H1
def kIR2 (vs : List V) (H1 : Hp) (R : It → Hp → Prop) : Prop := ∃ i j : Int, vs = [.int i, .int j] ∧ (-(2 ^ 62) ≤ i ∧ i < 2 ^ 62 ∧ -(2 ^ 62) ≤ j ∧ j < 2 ^ 62) ∧ R (Itr i (j - i).toNat) H1
theorem w_iR {R : It → Hp → Prop} (h : A σ H fun vs H1 => kIR vs H1 R) : iRng1 A σ H R := h
theorem w_iR2 {R : It → Hp → Prop} (h : A σ H fun vs H1 => kIR2 vs H1 R) : iRng2 A σ H R := h
theorem w_forL (hx : SqL K H a xs) (Pv : Nat → L2.St → Hp → Prop) (h0 : Pv 0 σ H) (hl : ∀ i σ' H', i ≤ xs.length → Pv i σ' H' → SqL K H' a xs)
    (hs : ∀ i x σ' H', xs[i]? = some x → i < xs.length → Pv i σ' H' → g x σ' H' fun σ2 H2 => tb ⟨Pv (i + 1), r, n, Pv (i + 1)⟩ σ2 H2) (hd : ∀ σ' H', Pv xs.length σ' H' → n σ' H') : kIL K (.ref a) H fun J H1 => kFor J H1 g tb ⟨n, r, b, c⟩ σ :=
  ⟨a, rfl, ⟨xs, hx⟩, for_list (D := ⟨n, r, b, c⟩) Pv h0 hl (fun i x σ' H' e p => hs i x σ' H' e (List.getElem?_eq_some_iff.mp e).1 p) hd⟩
theorem w_forT (hx : SqT K H a xs) (Pv : Nat → L2.St → Hp → Prop) (h0 : Pv 0 σ H) (hl : ∀ i σ' H', i ≤ xs.length → Pv i σ' H' → SqT K H' a xs)
    (hs : ∀ i x σ' H', xs[i]? = some x → i < xs.length → Pv i σ' H' → g x σ' H' fun σ2 H2 => tb ⟨Pv (i + 1), r, n, Pv (i + 1)⟩ σ2 H2) (hd : ∀ σ' H', Pv xs.length σ' H' → n σ' H') : kIT K (.ref a) H fun J H1 => kFor J H1 g tb ⟨n, r, b, c⟩ σ :=
  ⟨a, rfl, ⟨xs, hx⟩, for_tup (D := ⟨n, r, b, c⟩) Pv h0 hl (fun i x σ' H' e p => hs i x σ' H' e (List.getElem?_eq_some_iff.mp e).1 p) hd⟩
theorem w_forR {j : Int} (hb : 0 ≤ j ∧ j ≤ 1000000) (Pv : Nat → L2.St → Hp → Prop) (h0 : Pv 0 σ H) (hs : ∀ (i : Nat) σ' H', (i : Int) < j → Pv i σ' H' → g (.int i) σ' H' fun σ2 H2 => tb ⟨Pv (i + 1), r, n, Pv (i + 1)⟩ σ2 H2) (hd : ∀ σ' H', Pv j.toNat σ' H' → n σ' H') :
    kIR [.int j] H fun J H1 => kFor J H1 g tb ⟨n, r, b, c⟩ σ :=
  ⟨j, rfl, by omega, by omega, for_range (D := ⟨n, r, b, c⟩) Pv h0 (fun i σ' H' e p => by
    have e0 : (0 : Int) + (i : Nat) = (i : Int) := Int.zero_add _
    rw [e0]
    exact hs i σ' H' (by omega) p) hd⟩
theorem w_forR2 {lo j : Int} (hb : 0 ≤ lo ∧ lo ≤ 1000000 ∧ 0 ≤ j ∧ j ≤ 1000000) (Pv : Nat → L2.St → Hp → Prop) (h0 : Pv 0 σ H) (hs : ∀ (i : Nat) σ' H', lo + (i : Int) < j → Pv i σ' H' → g (.int (lo + i)) σ' H' fun σ2 H2 => tb ⟨Pv (i + 1), r, n, Pv (i + 1)⟩ σ2 H2) (hd : ∀ σ' H', Pv (j - lo).toNat σ' H' → n σ' H') :
    kIR2 [.int lo, .int j] H fun J H1 => kFor J H1 g tb ⟨n, r, b, c⟩ σ :=
  ⟨lo, j, rfl, ⟨by omega, by omega, by omega, by omega⟩, for_range (D := ⟨n, r, b, c⟩) Pv h0 (fun i σ' H' e p => hs i σ' H' (by omega) p) hd⟩
def kLoop (W : Nat → L2.St → Hp → Prop) (m : Nat) (tb : TS) (r : VK) (n : L2.St → Hp → Prop) (σ : L2.St) (H1 : Hp) : Prop := ∃ N : L2.St → Hp → Prop, (∀ σ' H', N σ' H' → ∃ m', m' < m ∧ W m' σ' H') ∧ tb ⟨N, r, n, N⟩ σ H1
theorem w_kLoop {W : Nat → L2.St → Hp → Prop} {m : Nat} (h : tb ⟨fun σ' H' => ∃ m', m' < m ∧ W m' σ' H', r, n, fun σ' H' => ∃ m', m' < m ∧ W m' σ' H'⟩ σ H) : kLoop W m tb r n σ H := ⟨_, fun _ _ h => h, h⟩
theorem w_while (W : Nat → L2.St → Hp → Prop) (m : Nat) (h0 : W m σ H) (hs : ∀ m σ' H', W m σ' H' → tt σ' H' fun k H1 => kIf k (kLoop W m tb r n σ' H1) (n σ' H1)) : tWhile tt tb ⟨n, r, b, c⟩ σ H := ⟨W, ⟨m, h0⟩, hs⟩
/-- a comprehension over what J walks; D: the new list -/
def kStep (vs : List Nat) (σ σ2 : L2.St) (Z : Prop) : Prop := wipe σ2 vs = wipe σ vs ∧ Z
theorem w_kStep {σ2 : L2.St} {Z : Prop} (e : wipe σ2 vs = wipe σ vs) (h : Z) : kStep vs σ σ2 Z := ⟨e, h⟩
def kAcc (D : Addr) (H4 : Hp) (y : V) (Z : Hp → Prop) : Prop := ∃ acc, H4 D = some (.lst acc) ∧ acc.length < sizeLine ∧ Z (upd H4 D (.lst (acc ++ [y])))
theorem w_kAcc {H0 : Hp} {M : List Addr} {R L : Obs} {T : Tps} {P : Hp → Prop} {D : Addr} {acc : List V} {Z : Hp → Prop} (kn : Kn H0 M R H L T P) (j : Nat) (hj : L[j]? = some (D, .lst acc)) (hs : acc.length ≤ 100000) (h : ∀ H', Kn H0 M R H' (L.set j (D, .lst (acc ++ [v]))) T P → Z H') : kAcc D H v Z :=
  ⟨acc, kn.l j hj, Nat.lt_of_le_of_lt hs (by decide), h _ (kn.put _ hj rfl)⟩
theorem w_yes {Q : Bool → Hp → Prop} (h : Q true H) : tYes σ H Q := h
def kLc (J : It) (H1 : Hp) (g : TG) (tt : TT) (te : TE) (vs : List Nat) (σ : L2.St) (Q : VK) : Prop := ∀ D, H1 D = none → ∃ W : Nat → Nat → Hp → Prop, (∃ m, W 0 m (upd H1 D (.lst []))) ∧ ∀ i m H, W i m H →
  (J.stop i H ∧ Q (.ref D) H) ∨ (J.go i H ∧ ∃ Nx : Hp → Prop, (∀ H', Nx H' → ∃ m', m' < m ∧ W (i + 1) m' H') ∧ ∀ x H', J.yld i H x H' → g x (wipe σ vs) H' fun σ2 H2 => wipe σ2 vs = wipe σ vs ∧ tt σ2 H2 fun b H3 =>
    if b = true then te σ2 H3 fun y H4 => ∃ acc, H4 D = some (.lst acc) ∧ acc.length < sizeLine ∧ Nx (upd H4 D (.lst (acc ++ [y]))) else Nx H3)
theorem w_lc {wi : TI} (h : wi σ H fun J H1 => kLc J H1 g tt te vs σ Q) : tLc wi g tt te vs σ H Q := h
/-- one turn -/
def kTurn (g : TG) (tt : TT) (te : TE) (vs : List Nat) (σ : L2.St) (D : Addr) (x : V) (H : Hp) (Z : Hp → Prop) : Prop :=
  g x (wipe σ vs) H fun σ2 H2 => kStep vs σ σ2 (tt σ2 H2 fun b H3 => kIf b (te σ2 H3 fun y H4 => kAcc D H4 y Z) (Z H3))
theorem w_kTurn {D : Addr} {x : V} {Z : Hp → Prop} (h : g x (wipe σ vs) H fun σ2 H2 => kStep vs σ σ2 (tt σ2 H2 fun b H3 => kIf b (te σ2 H3 fun y H4 => kAcc D H4 y Z) (Z H3))) : kTurn g tt te vs σ D x H Z := h
section
variable {H0 : Hp} {M : List Addr} {R L : Obs} {T : Tps} {P : Hp → Prop}
theorem w_lcL (kn : Kn H0 M R H L T P) (hx : SqL K H a xs) (Pv : Addr → Nat → Hp → Prop) (h0 : ∀ D H', Kn H0 M R H' ((D, .lst []) :: L) T P → Pv D 0 H') (hl : ∀ D i H', i ≤ xs.length → Pv D i H' → SqL K H' a xs)
    (hs : ∀ D i x H', xs[i]? = some x → i < xs.length → Pv D i H' → kTurn g tt te vs σ D x H' (Pv D (i + 1))) (hd : ∀ D H', Pv D xs.length H' → Q (.ref D) H') : kIL K (.ref a) H fun J H1 => kLc J H1 g tt te vs σ Q :=
  ⟨a, rfl, ⟨xs, hx⟩, fun D hD => lc_list (Pv D) (h0 D _ (kn.new (.lst []) hD rfl)) (hl D) (fun i x H' e p => hs D i x H' e (List.getElem?_eq_some_iff.mp e).1 p) (hd D)⟩
theorem w_lcT (kn : Kn H0 M R H L T P) (hx : SqT K H a xs) (Pv : Addr → Nat → Hp → Prop) (h0 : ∀ D H', Kn H0 M R H' ((D, .lst []) :: L) T P → Pv D 0 H') (hl : ∀ D i H', i ≤ xs.length → Pv D i H' → SqT K H' a xs)
    (hs : ∀ D i x H', xs[i]? = some x → i < xs.length → Pv D i H' → kTurn g tt te vs σ D x H' (Pv D (i + 1))) (hd : ∀ D H', Pv D xs.length H' → Q (.ref D) H') : kIT K (.ref a) H fun J H1 => kLc J H1 g tt te vs σ Q :=
  ⟨a, rfl, ⟨xs, hx⟩, fun D hD => lc_tup (Pv D) (h0 D _ (kn.new (.lst []) hD rfl)) (hl D) (fun i x H' e p => hs D i x H' e (List.getElem?_eq_some_iff.mp e).1 p) (hd D)⟩
theorem w_lcR {j : Int} (hb : 0 ≤ j ∧ j ≤ 1000000) (kn : Kn H0 M R H L T P) (Pv : Addr → Nat → Hp → Prop) (h0 : ∀ D H', Kn H0 M R H' ((D, .lst []) :: L) T P → Pv D 0 H')
    (hs : ∀ D (i : Nat) H', (i : Int) < j → Pv D i H' → kTurn g tt te vs σ D (.int i) H' (Pv D (i + 1))) (hd : ∀ D H', Pv D j.toNat H' → Q (.ref D) H') : kIR [.int j] H fun J H1 => kLc J H1 g tt te vs σ Q :=
  ⟨j, rfl, by omega, by omega, fun D hD => lc_range (Pv D) (h0 D _ (kn.new (.lst []) hD rfl)) (fun i H' e p => by
    have e0 : (0 : Int) + (i : Nat) = (i : Int) := Int.zero_add _
    rw [e0]
    exact hs D i H' (by omega) p) (hd D)⟩
end
end
/-! ### dicts as records -/
def zipK (ks : List Str) (vs : List V) : List (Key × V) := (ks.zip vs).map fun p => (Sum.inr p.1, p.2)
theorem valV_zip : ∀ {ks : List Str} {vs : List V} {k : Str} {i : Nat} {v : V}, ks.Nodup → ks[i]? = some k → vs[i]? = some v → valV (zipK ks vs) (Sum.inr k) = some v
  | [], _, _, _, _, _, h, _ => by cases h
  | _ :: _, [], _, _, _, _, _, h => by cases h
  | a :: ks, b :: vs, k, 0, v, _, h, h2 => by
    have e1 : a = k := Option.some.inj h
    have e2 : b = v := Option.some.inj h2
    rw [← e1, ← e2]
    exact valV_pos rfl
  | a :: ks, b :: vs, k, i + 1, v, nd, h, h2 => by
    obtain ⟨n1, n2⟩ := List.nodup_cons.mp nd
    have hne : ¬ (Sum.inr a : Key) = Sum.inr k := fun z => n1 (by
      have e : a = k := Sum.inr.inj z
      rw [e]
      exact List.mem_of_getElem? (show ks[i]? = some k from h))
    show valV ((Sum.inr a, b) :: zipK ks vs) (Sum.inr k) = some v
    rw [valV_neg hne]
    exact valV_zip n2 (show ks[i]? = some k from h) (show vs[i]? = some v from h2)
theorem map_zip (k : Str) (v : V) : ∀ {ks : List Str} {vs : List V}, k ∉ ks → (zipK ks vs).map (fun kv => if kv.1 = Sum.inr k then (kv.1, v) else kv) = zipK ks vs
  | [], _, _ => rfl
  | _ :: _, [], _ => rfl
  | a :: ks, b :: vs, h => by
    have hne : ¬ (Sum.inr a : Key) = Sum.inr k := fun z => h (by
      have e : a = k := Sum.inr.inj z
      rw [e]
      exact List.mem_cons_self)
    show (if (Sum.inr a : Key) = Sum.inr k then _ else ((Sum.inr a : Key), b)) :: (zipK ks vs).map _ = (Sum.inr a, b) :: zipK ks vs
    rw [if_neg hne, map_zip k v fun z => h (List.mem_cons_of_mem _ z)]
theorem mapPut_zip : ∀ {ks : List Str} {vs : List V} {k : Str} {i : Nat} {v : V}, ks.Nodup → ks[i]? = some k → (zipK ks vs).map (fun kv => if kv.1 = Sum.inr k then (kv.1, v) else kv) = zipK ks (vs.set i v)
  | [], _, _, _, _, _, h => by cases h
  | _ :: _, [], _, i, _, _, _ => by
    cases i <;> rfl
  | a :: ks, b :: vs, k, 0, v, nd, h => by
    obtain ⟨n1, n2⟩ := List.nodup_cons.mp nd
    have e1 : a = k := Option.some.inj h
    subst e1
    show (if (Sum.inr a : Key) = Sum.inr a then ((Sum.inr a : Key), v) else _) :: (zipK ks vs).map _ = (Sum.inr a, v) :: zipK ks vs
    rw [if_pos rfl, map_zip a v n1]
  | a :: ks, b :: vs, k, i + 1, v, nd, h => by
    obtain ⟨n1, n2⟩ := List.nodup_cons.mp nd
    have hne : ¬ (Sum.inr a : Key) = Sum.inr k := fun z => n1 (by
      have e : a = k := Sum.inr.inj z
      rw [e]
      exact List.mem_of_getElem? (show ks[i]? = some k from h))
    show (if (Sum.inr a : Key) = Sum.inr k then _ else ((Sum.inr a : Key), b)) :: (zipK ks vs).map _ = (Sum.inr a, b) :: zipK ks (vs.set i v)
    rw [if_neg hne, mapPut_zip n2 (show ks[i]? = some k from h)]
theorem putK_zip {ks : List Str} {vs : List V} {k : Str} {i : Nat} {v : V} (nd : ks.Nodup) (h : ks[i]? = some k) (hv : i < vs.length) : putK (zipK ks vs) (Sum.inr k) v = zipK ks (vs.set i v) := by
  have h1 := valV_zip (v := vs[i]) nd h (List.getElem?_eq_getElem hv)
  have h2 : ((zipK ks vs).any fun kv => decide (kv.1 = Sum.inr k)) = true := by
    rw [valV_any, h1] <;> rfl
  unfold putK
  rw [if_pos h2]
  exact mapPut_zip nd h
theorem zipK_length (ks : List Str) (vs : List V) : (zipK ks vs).length ≤ ks.length := by
  unfold zipK
  rw [List.length_map, List.length_zip]
  exact Nat.min_le_left _ _
section
variable {H0 H : Hp} {M : List Addr} {R L : Obs} {T : Tps} {P : Hp → Prop} {a : Addr} {ks : List Str} {vs : List V} {k : Str} {v : V} {Q : VK} {td ty tv : TE} {σ : L2.St} {n : L2.St → Hp → Prop} {r : VK} {b c : L2.St → Hp → Prop}
def kGet (x y : V) (H : Hp) (Q : VK) : Prop := ∃ a v, x = .ref a ∧ DGet H a y (some v) ∧ Q v H
theorem w_tget (h : td σ H fun x H1 => ty σ H1 fun y H2 => kGet x y H2 Q) : tDGet td ty σ H Q := h
theorem w_kGet (hp : H a = some (.dK (zipK ks vs))) (nd : ks.Nodup) (i : Nat) (hk : ks[i]? = some k) (hv : vs[i]? = some v) (h : Q v H) : kGet (.ref a) (.str k) H Q := by
  refine ⟨a, v, rfl, ?_, h⟩
  have e := DGet.k (k := Sum.inr k) hp
  rw [valV_zip nd hk hv] at e
  exact e
def kIx (ks : List Str) (vs : List V) (k : Str) (H : Hp) (Q : VK) : Prop := ∃ (i : Nat) (v : V), ks.Nodup ∧ ks[i]? = some k ∧ vs[i]? = some v ∧ Q v H
theorem w_kGet1 (hp : H a = some (.dK (zipK ks vs))) (h : kIx ks vs k H Q) : kGet (.ref a) (.str k) H Q := by
  obtain ⟨i, v, nd, hk, hv, q⟩ := h
  exact w_kGet hp nd i hk hv q
theorem w_ix (i : Nat) (nd : ks.Nodup) (hk : ks[i]? = some k) (hv : vs[i]? = some v) (h : Q v H) : kIx ks vs k H Q := ⟨i, v, nd, hk, hv, h⟩
def kPut (x y v : V) (H : Hp) (Z : Hp → Prop) : Prop := ∃ a H4, x = .ref a ∧ DPut H a y v H4 ∧ Z H4
theorem w_tput (h : tv σ H fun v H1 => td σ H1 fun x H2 => ty σ H2 fun y H3 => kPut x y v H3 fun H4 => n σ H4) : sDPut td ty tv ⟨n, r, b, c⟩ σ H := h
theorem w_rSetD {o i : V} {Z : Hp → Prop} (h : kPut o i v H Z) : rSetD o i v H Z := h
theorem w_kPut (kn : Kn H0 M R H L T P) (j : Nat) (hj : L[j]? = some (a, .dK (zipK ks vs))) (nd : ks.Nodup) (hs : Nat.ble ks.length 1000 = true) (i : Nat) (hk : ks[i]? = some k) (hv : Nat.blt i vs.length = true) {Z : Hp → Prop}
    (h : ∀ H', Kn H0 M R H' (L.set j (a, .dK (zipK ks (vs.set i v)))) T P → Z H') : kPut (.ref a) (.str k) v H Z := by
  have hl : (zipK ks vs).length < sizeLine := Nat.lt_of_le_of_lt (zipK_length ks vs) (Nat.lt_of_le_of_lt (Nat.le_of_ble_eq_true hs) (by decide))
  have e := DPut.k (k := Sum.inr k) (v := v) (kn.l j hj) hl
  refine ⟨a, _, rfl, e, h _ ?_⟩
  rw [putK_zip nd hk (by simpa using hv)]
  exact kn.put _ hj rfl
end
/-! ### a displayed dict -/
theorem valV_zip_none : ∀ {ks : List Str} {vs : List V} {k : Str}, k ∉ ks → valV (zipK ks vs) (Sum.inr k) = none
  | [], _, _, _ => rfl
  | _ :: _, [], _, _ => rfl
  | a :: ks, b :: vs, k, h => by
    have hne : ¬ (Sum.inr a : Key) = Sum.inr k := fun z => h (by
      have e : a = k := Sum.inr.inj z
      rw [e]
      exact List.mem_cons_self)
    show valV ((Sum.inr a, b) :: zipK ks vs) (Sum.inr k) = none
    rw [valV_neg hne]
    exact valV_zip_none fun z => h (List.mem_cons_of_mem _ z)
theorem zipK_app : ∀ {ks ls : List Str} {vs ws : List V}, ks.length = vs.length → zipK (ks ++ ls) (vs ++ ws) = zipK ks vs ++ zipK ls ws
  | [], _, [], _, _ => rfl
  | [], _, _ :: _, _, h => by cases h
  | _ :: _, _, [], _, h => by cases h
  | a :: ks, ls, b :: vs, ws, h => by
    show (Sum.inr a, b) :: zipK (ks ++ ls) (vs ++ ws) = (Sum.inr a, b) :: (zipK ks vs ++ zipK ls ws)
    rw [zipK_app (Nat.succ.inj h)]
theorem merge_zip : ∀ {ls ks : List Str} {ws vs : List V}, (ks ++ ls).Nodup → ks.length = vs.length → ls.length = ws.length → mergeK (zipK ks vs) (zipK ls ws) = zipK (ks ++ ls) (vs ++ ws)
  | [], ks, [], vs, _, _, _ => by
    rw [List.append_nil, List.append_nil] <;> rfl
  | [], _, _ :: _, _, _, _, h => by cases h
  | _ :: _, _, [], _, _, _, h => by cases h
  | a :: ls, ks, b :: ws, vs, nd, h1, h2 => by
    have hn : a ∉ ks := fun z => (List.nodup_append.mp nd).2.2 a z a List.mem_cons_self rfl
    show mergeK (putK (zipK ks vs) (Sum.inr a) b) (zipK ls ws) = _
    rw [putK_new b (valV_zip_none hn)]
    have e : zipK ks vs ++ [(Sum.inr a, b)] = zipK (ks ++ [a]) (vs ++ [b]) := (zipK_app (ls := [a]) (ws := [b]) h1).symm
    rw [e, merge_zip (ks := ks ++ [a]) (vs := vs ++ [b]) (by rw [List.append_assoc]; exact nd) (by rw [List.length_append, List.length_append, h1] <;> rfl) (Nat.succ.inj h2), List.append_assoc, List.append_assoc]
    rfl
section
variable {H0 H : Hp} {M : List Addr} {R L : Obs} {T : Tps} {P : Hp → Prop} {a : Addr} {ks : List Str} {vs : List V} {Q : VK} {σ : L2.St}
def kDisp (p : Addr) (ps : List (V × V)) (H2 : Hp) (Q : VK) : Prop := H2 p = some (.dK []) ∧ ∃ kvs : List (Key × V), ps = kvs.map (fun kv => (kV kv.1, kv.2)) ∧ kvs.length ≤ 15 ∧ Q (.ref p) (upd H2 p (.dK (mergeK [] kvs)))
theorem w_disp (kn : Kn H0 M R H L T P) {trs : List (TE × TE)} (h : ∀ p H', Kn H0 M R H' ((p, .dK []) :: L) T P → tPairs trs σ H' fun ps H2 => kDisp p ps H2 Q) : tDisp trs σ H Q := fun p hp => h p _ (kn.new (.dK []) hp rfl)
theorem w_pairs0 {Q : List (V × V) → Hp → Prop} (h : Q [] H) : tPairs [] σ H Q := h
theorem w_pairs {tk tv : TE} {trs : List (TE × TE)} {Q : List (V × V) → Hp → Prop} (h : tk σ H fun x H1 => tv σ H1 fun y H2 => tPairs trs σ H2 fun ps H3 => Q ((x, y) :: ps) H3) : tPairs ((tk, tv) :: trs) σ H Q := h
theorem w_kDisp (kn : Kn H0 M R H L T P) (j : Nat) (hj : L[j]? = some (a, .dK [])) (ks : List Str) (vs : List V) (nd : ks.Nodup) (hl : ks.length = vs.length) (h15 : Nat.ble ks.length 15 = true) {ps : List (V × V)} (e : ps = (zipK ks vs).map (fun kv => (kV kv.1, kv.2)))
    (h : ∀ H', Kn H0 M R H' (L.set j (a, .dK (zipK ks vs))) T P → Q (.ref a) H') : kDisp a ps H Q := by
  refine ⟨kn.l j hj, zipK ks vs, e, Nat.le_trans (zipK_length ks vs) (Nat.le_of_ble_eq_true h15), h _ ?_⟩
  have em : mergeK [] (zipK ks vs) = zipK ks vs := merge_zip (ks := []) (vs := []) nd rfl hl
  rw [em]
  exact kn.put _ hj rfl
end
/-! ### the rules that read the written part, K by name -/
section
variable {X : Cx} {K : PySem.W.Frag}
theorem op_catAK (h : X.K = K := by rfl) : OpR X (binaryOp .Add) (rCatA K) := h ▸ op_catA
theorem op_eqDK (hu : X.A.units + 64 < cLine) (h : X.K = K := by rfl) : OpR X (compareOp .Eq) (rEqD K) := h ▸ op_eqD hu
theorem op_neDK (hu : X.A.units + 64 < cLine) (h : X.K = K := by rfl) : OpR X (compareOp .NotEq) (rNeD K) := h ▸ op_neD hu
theorem ix_listK (h : X.K = K := by rfl) : IxR X (rIxL K) := h ▸ ix_list
theorem ix_tupK (h : X.K = K := by rfl) : IxR X (rIxT K) := h ▸ ix_tup
theorem cr_lenK (h : X.K = K := by rfl) : CallR X (.builtin "len") (rLn K) := h ▸ cr_len
theorem cr_isiK (h : X.K = K := by rfl) : CallR X (.builtin "isinstance") (rIsi K) := h ▸ call_isi
theorem cr_tupK (h : X.K = K := by rfl) : CallR X (.type "tuple") (rTupOf K) := h ▸ cr_tup
theorem cr_lstK (h : X.K = K := by rfl) : CallR X (.type "list") (rLstOf K) := h ▸ cr_lst
theorem cr_sumK (hc : X.calm = true) (h : X.K = K := by rfl) : CallR X (.builtin "sum") (rSum K) := h ▸ cr_sum hc
theorem op_inK (h : X.K = K := by rfl) : OpR X (compareOp .In) (rIn K false) := h ▸ op_in_seq
theorem op_ninK (h : X.K = K := by rfl) : OpR X (compareOp .NotIn) (rIn K true) := h ▸ op_notIn_seq
theorem sl_listK (h : X.K = K := by rfl) : SlR X (rSlL K) := h ▸ sl_list
theorem sl_tupK (h : X.K = K := by rfl) : SlR X (rSlA K) := h ▸ sl_tupA
theorem pi_listK {tg l : Expr} {tl : TE} (hl : PE X l tl) (h : X.K = K := by rfl) : PI X tg l (iList K tl) := h ▸ pi_list hl
theorem pi_tupK {tg l : Expr} {tl : TE} (hl : PE X l tl) (h : X.K = K := by rfl) : PI X tg l (iTup K tl) := h ▸ pi_tup hl
theorem pg_tupK {es : List Expr} {k : Nat} {t : TGs} {n : Nat} {pos : Pos} (hc : X.calm = true) (h : PGs X es t) (hK : X.K = K := by rfl)
    (hn : (assignEach es X.env).length = n := by rfl) (hst : (assignEach es X.env).findIdx? (·.1) = none := by rfl) : PG X (.Tuple es k pos) (gTup K n t) := hK ▸ pg_tup hc h hn hst
theorem pe_fldK {o : Expr} {f : Str} {pos : Pos} {ta : TE} (he : PE X o ta) (hb : attributeBase o f X.env (eval o X.env) = eval o X.env) (h : X.K = K := by rfl) : PE X (.Attribute o f pos) (tFld K ta f) := h ▸ pe_fld he hb
theorem pe_bmK {o e : Expr} {es : List Expr} {to : TE} {t : TA} {name : Str} {apos cpos : Pos} {T id : String} {r : V → List V → Hp → VK → Prop} (pa : PlainAttrs T) (slot : Slot T name id) (hty : typeOf (.builtin id) = pure (.type "method_descriptor")) (hm : MtR X id r) (ho : PE X o to) (ha : PA X (e :: es) t) (h : X.K = K := by rfl)
    (hbase : attributeBase o name X.env (eval o X.env) = eval o X.env := by rfl)
    (hfew : ((backTo cpos (starEach (e :: es) X.env)).all (fun x => !x.1) && (backToKw cpos (keywordEach [] X.env)).all (fun x => x.1.isSome)
      && decide ((e :: es).length + ([] : List Keyword).length + (if ([] : List Keyword).isEmpty then 0 else 1) < 30)) = true := by rfl)
    (hline : (apos.endLine == cpos.line) = true := by rfl) (hs : starEach (e :: es) X.env = (false, eval e X.env) :: starEach es X.env := by rfl) (hplain : (backTo cpos (starEach es X.env)).any (·.1) = false := by rfl) :
    PE X (.Call (.Attribute o name apos) (e :: es) [] cpos) (tBM K T r to t) := h ▸ pe_bm pa slot hty hm ho ha hbase hfew hline hs hplain
end
/-! ### calls -/
/-- a def of the module that may be called by its name: its promise, at level k; CX: what it may let out -/
structure Cal (P : Program) (w : World) (K : PySem.W.Frag) (mg : Str → Option Value) (base : Heap) (CX : CXT) (k : Nat) (x : Str) (ps : List Str) (sp : Sp) : Prop where
  ex : ∃ f fd, FnOk P w K mg base CX k f fd ps sp ∧ mg x = some (.ref f) ∧ PySem.W.keepIn K (.ref f) = true ∧ Binds K fd ps []
def tCl (sp : Sp) (E : XK) (t : TA) : TE := fun σ H Q => t σ H fun vs H1 => sp vs H1 Q E
theorem tCl_eq (sp : Sp) (E : XK) (t : TA) : tCl sp E t = tCall sp [] E t := by
  funext σ H Q
  unfold tCl tCall
  simp only [List.append_nil]
section
variable {X : Cx} {CX : CXT} {k j : Nat} {x : Str} {ps : List Str} {sp : Sp} {E : XK} {e : Expr} {es : List Expr} {t : TA} {p pos : Pos}
theorem pe_cl (c : Cal X.prog X.w X.K X.mg X.base CX k x ps sp) (hr : Room j X.A) (hk : k ≤ j) (hx : Passes CX X E) (hg : Gl X x) (ha : PA X (e :: es) t) (hdb : (x == ("__debug__" : Str)) = false := by decide)
    (he : starEach (e :: es) X.env = (false, eval e X.env) :: starEach es X.env := by rfl) (hpl : (backTo pos (starEach es X.env)).any (·.1) = false := by rfl) : PE X (.Call (.Name x p) (e :: es) [] pos) (tCl sp E t) := by
  obtain ⟨f, fd, F, m, kp, b⟩ := c.ex
  rw [tCl_eq]
  exact pe_call F (hr.mono hk) hg m kp b .nil hx ha hdb he hpl
theorem pe_cl0 (c : Cal X.prog X.w X.K X.mg X.base CX k x ps sp) (hr : Room j X.A) (hk : k ≤ j) (hx : Passes CX X E) (hg : Gl X x) (hdb : (x == ("__debug__" : Str)) = false := by decide) : PE X (.Call (.Name x p) [] [] pos) (tCl sp E tNil) := by
  obtain ⟨f, fd, F, m, kp, b⟩ := c.ex
  rw [tCl_eq]
  exact pe_call0 F (hr.mono hk) hg m kp b .nil hx hdb
theorem w_cl {σ : L2.St} {H : Hp} {Q : VK} (h : t σ H fun vs H1 => sp vs H1 Q E) : tCl sp E t σ H Q := h
end
/-! ### promises by their number of arguments -/
def Sp0 (R : Hp → VK → XK → Prop) : Sp := fun vs H Q E => vs = [] ∧ R H Q E
def Sp1 (R : V → Hp → VK → XK → Prop) : Sp := fun vs H Q E => ∃ a, vs = [a] ∧ R a H Q E
def Sp2 (R : V → V → Hp → VK → XK → Prop) : Sp := fun vs H Q E => ∃ a b, vs = [a, b] ∧ R a b H Q E
def Sp3 (R : V → V → V → Hp → VK → XK → Prop) : Sp := fun vs H Q E => ∃ a b c, vs = [a, b, c] ∧ R a b c H Q E
def Sp4 (R : V → V → V → V → Hp → VK → XK → Prop) : Sp := fun vs H Q E => ∃ a b c d, vs = [a, b, c, d] ∧ R a b c d H Q E
def Sp5 (R : V → V → V → V → V → Hp → VK → XK → Prop) : Sp := fun vs H Q E => ∃ a b c d e, vs = [a, b, c, d, e] ∧ R a b c d e H Q E
section
variable {H : Hp} {Q : VK} {E : XK} {a b c d e : V}
theorem w_sp0 {R : Hp → VK → XK → Prop} (h : R H Q E) : Sp0 R [] H Q E := ⟨rfl, h⟩
theorem w_sp1 {R : V → Hp → VK → XK → Prop} (h : R a H Q E) : Sp1 R [a] H Q E := ⟨a, rfl, h⟩
theorem w_sp2 {R : V → V → Hp → VK → XK → Prop} (h : R a b H Q E) : Sp2 R [a, b] H Q E := ⟨a, b, rfl, h⟩
theorem w_sp3 {R : V → V → V → Hp → VK → XK → Prop} (h : R a b c H Q E) : Sp3 R [a, b, c] H Q E := ⟨a, b, c, rfl, h⟩
theorem w_sp4 {R : V → V → V → V → Hp → VK → XK → Prop} (h : R a b c d H Q E) : Sp4 R [a, b, c, d] H Q E := ⟨a, b, c, d, rfl, h⟩
theorem w_sp5 {R : V → V → V → V → V → Hp → VK → XK → Prop} (h : R a b c d e H Q E) : Sp5 R [a, b, c, d, e] H Q E := ⟨a, b, c, d, e, rfl, h⟩
end
/-! ### defs of the text -/
abbrev FnP (K : PySem.W.Frag) (x q : Str) (st : Stmt) (f : Addr) (fd : FuncData) : Prop := FunD K x q (defArgs st) (defBody st) (defScope st) [] [] f fd
/-- what stands for the def x of the module -/
structure DefAt (K : PySem.W.Frag) (mg : Str → Option Value) (x : Str) (st : Stmt) : Prop where
  fd : ∃ f fd, FnP K x x st f fd ∧ mg x = some (.ref f)
section
variable {P : Program} {w : World} {K : PySem.W.Frag} {mg : Str → Option Value} {base : Heap} {CX : CXT} {x : Str} {st : Stmt} {N ps : List Str} {k : Nat} {sp : Sp}
theorem cal_of (D : DefAt K mg x st) (S : FnScope N ps (defScope st))
    (hb : ∀ (kV doc pm : Value) (an : Option Addr) (cdv ct : Value) (us : List Value), us.length = ps.length → bindArgs (PySem.W.fnOf x x (defArgs st) (defBody st) (defScope st) .none kV doc pm an cdv ct) ⟨us, []⟩ = pure (ps.zip us))
    (len : ∀ vs H Q E, sp vs H Q E → vs.length = ps.length)
    (hbody : ∀ (f : Addr) (cdv : Value) (A : Around) (outer : List Env) (s : Shared) (H : Hp) (vs : List V) (Q : VK) (E : XK), Room k (A.deeper (envOfC x (defScope st) s.heap.objs.size f cdv)) → sp vs H Q E →
      ∃ t, PSs (cxOf CX P w K mg base N x (defScope st) f cdv A outer s H E) (defBody st) t ∧ t ⟨fun _ H' => Q .non H', Q, fun _ _ => False, fun _ _ => False⟩ (L2.start N vs) H) : Cal P w K mg base CX (k + 1) x ps sp := by
  obtain ⟨f, fd, F, g⟩ := D.fd
  exact ⟨f, fd, F.ok S len fun cdv A outer s H vs Q E hr h => hbody f cdv A outer s H vs Q E hr h, g, F.kp, F.bindsN hb⟩
theorem pe_gi {X : Cx} {x : Str} {i : Int} {pos : Pos} (hg : Gl X x) (h : ∃ t, X.mg x = some (.int i t)) (hd : (x == ("__debug__" : Str)) = false := by decide) : PE X (.Name x pos) (tC (.int i)) := by
  obtain ⟨t, e⟩ := h
  exact pe_glob hg e ⟨t, rfl⟩ hd
end
end Hue
set_option Elab.async false
set_option linter.all false
set_option maxRecDepth 100000
set_option maxHeartbeats 4000000
set_option autoImplicit false
namespace Hue
open PySem PySem.Spec PyProof.Rows L2
/-! ### enumerate of a tuple -/
/-- the tuple at a, each item in a new pair behind its number, from k -/
def IteT (K : PySem.W.Frag) (a : Addr) (k : Int) : It where
  go := fun i H => ∃ (xs : List V) (x : V), SqT K H a xs ∧ xs[i]? = some x
  yld := fun i H v H' => ∃ p x, v = .ref p ∧ H p = none ∧ H' = upd H p (.tup [.int (k + (i : Int)), x]) ∧ ∀ xs, SqT K H a xs → xs[i]? = some x
  stop := fun i H => ∃ xs : List V, SqT K H a xs ∧ xs.length ≤ i
theorem enum_apart {h : Heap} {e it a : Addr} {i : Int} {old : Value} {items : Array Value} (he : IsEnum h e it i old) (ht : h.IsTuple a items) : e ≠ a := fun z => by
  obtain ⟨o, ho, hc, _⟩ := ht
  rw [← z, he] at ho
  have e2 := Option.some.inj ho
  rw [← e2] at hc
  exact absurd (Value.type.inj hc) (by decide)
/-- at the end of the tuple -/
theorem draws_end {prog : Program} {w : World} {A : Around} (hh : A.handled = none) (it t : Addr) (n : Nat) (items : Array Value) (hn : items[n]? = none) (hne : t ≠ it) :
    Draws prog w A it [it, t] n (fun _ _ => True) (fun i h => i = n ∧ h.IsTupleIter it t i ∧ h.IsTuple t items) where
  live := fun _ _ st => let ⟨o, ho, _⟩ := st.2.1; ⟨o, ho⟩
  frame := fun _ _ _ st hk => ⟨st.1, st.2.1.at fun o e => hk it (by simp) o e, st.2.2.at fun o e => hk t (by simp) o e⟩
  item := fun i s Q E hi st hQ => absurd hi (by rw [st.1]; exact Nat.lt_irrefl _)
  done := fun s Q E st hE => wpAny_nextOf_tuple_end hh st.2.1 st.2.2 hn hE
theorem turn_enT {P : Program} {w : World} {K : PySem.W.Frag} {es : List Expr} {ck : Nat} {tp : Pos} (a e it : Addr) (k : Int) :
    Turn P w K (.Tuple es ck tp) (IteT K a k) [e, it] e (fun i h => (∃ old, IsEnum h e it (k + (i : Int)) old) ∧ h.IsTupleIter it a i ∧ e ≠ it) where
  mem := by simp
  obj := by
    intro i h st b hb
    obtain ⟨⟨old, he⟩, ⟨o, ho, hc, hd⟩, _⟩ := st
    have hb' : b = e ∨ b = it := by simpa using hb
    rcases hb' with rfl | rfl
    · exact ⟨_, he, fun v q => nomatch q⟩
    · exact ⟨o, ho, fun v q => by rw [hd] at q; cases q⟩
  keep := by
    intro i h h' st kp
    obtain ⟨⟨old, he⟩, hi, hne⟩ := st
    exact ⟨⟨old, kp e (by simp) _ he⟩, hi.at fun o q => kp it (by simp) o q, hne⟩
  item := by
    intro X hP hw hK hc i pins s σ H E I hf st hg
    subst hP hw hK
    obtain ⟨⟨old, he⟩, hit, hne⟩ := st
    obtain ⟨xs, x, hq, hx⟩ := hg
    obtain ⟨its, rv, p, hz⟩ := I.tuple hq
    obtain ⟨u, hu, ru⟩ := rv.get hx
    have ht : s.heap.IsTuple a its.toArray := p
    have hea : e ≠ a := enum_apart he ht
    have hel : e < s.heap.objs.size := Heap.lt_size he
    have hil : it < s.heap.objs.size := by
      obtain ⟨_, q, _⟩ := hit
      exact Heap.lt_size q
    have hia : a ≠ it := fun z => by
      obtain ⟨o1, q1, c1, _⟩ := hit
      obtain ⟨o2, q2, c2, _⟩ := ht
      rw [← z, q2] at q1
      rw [← Option.some.inj q1, c2] at c1
      exact absurd (Value.type.inj c1) (by decide)
    have hlt : i < its.toArray.size := by
      have := (List.getElem?_eq_some_iff.mp hu).1
      simpa using this
    refine wpAny_pyNext_enum_itemC (Draws.tuple (A := X.A.in1) (I.ok.hd hc) it a hia its.toArray) he ⟨hit, ht⟩ hlt hne (by simp [hne, hea]) fun y h' tk hy ho hs2 hT hsz hk => ?_
    have ey : u = y := by
      have : its.toArray[i]? = some y := hy
      rw [List.getElem?_toArray, hu] at this
      exact Option.some.inj this
    subst ey
    refine ⟨_, rfl, wpAny_letOwnedTupleGo_enum (s := { s with heap := h', toks := tk + 1 }) ho fun h2 he2 sb => ?_⟩
    have hT2 := (sb.2 _ (Nat.ne_of_gt hel)).trans hT
    have new : ObjOk X.prog X.w (upd H s.heap.objs.size (.tup [.int (k + (i : Int)), x])) h2 s.heap.objs.size (.tup [.int (k + (i : Int)), x]) :=
      ⟨by show 2 ≤ sizeLine; decide, [.int (k + (i : Int)) tk, u], .cons ⟨_, rfl⟩ (.cons ru .nil), ⟨_, hT2, rfl, _, rfl⟩⟩
    have I1 : Inv X pins σ (upd H s.heap.objs.size (.tup [.int (k + (i : Int)), x])) { s with heap := h2, toks := tk + 1 } :=
      I.turnedNew (ch := [e, it]) (fun b o hb q => (sb.2 b (fun z => hb (by simp [z]))).trans (hk b o (fun z => hb (by simp [z])) (fun z => hb (by simp [z])) q)) hf (Nat.le_refl _) new
    refine ⟨.ref s.heap.objs.size, _, I1, rfl, ⟨_, x, rfl, I.hok.fresh (Nat.le_refl _), rfl, fun ys hy => by rw [I.tuple_inj hy hq]; exact hx⟩, ⟨⟨u, ?_⟩, hs2.1.at fun o q => (sb.2 it (Ne.symm hne)).trans q, hne⟩, fun b hb => ?_⟩
    · have e1 : k + ((i + 1 : Nat) : Int) = k + (i : Int) + 1 := by omega
      rw [e1]
      exact he2
    · have hb' : b < s.heap.objs.size := by
        have z : b = e ∨ b = it := by simpa using hb
        rcases z with rfl | rfl
        · exact hel
        · exact hil
      rw [upd_ne (Nat.ne_of_lt hb')]
      exact (hf b hb).1
  done := by
    intro X hP hw hK hc i pins s σ H E I hf st hg
    subst hP hw hK
    obtain ⟨⟨old, he⟩, hit, hne⟩ := st
    obtain ⟨xs, hq, hx⟩ := hg
    obtain ⟨its, rv, p, hz⟩ := I.tuple hq
    have ht : s.heap.IsTuple a its.toArray := p
    have hia : a ≠ it := fun z => by
      obtain ⟨o1, q1, c1, _⟩ := hit
      obtain ⟨o2, q2, c2, _⟩ := ht
      rw [← z, q2] at q1
      rw [← Option.some.inj q1, c2] at c1
      exact absurd (Value.type.inj c1) (by decide)
    obtain ⟨f0, f1, f2, f3, f4, f5⟩ := hf it (by simp)
    have hl := rv.length
    have hn : its.toArray[i]? = none := by
      rw [List.getElem?_toArray]
      exact List.getElem?_eq_none (by omega)
    exact wpAny_pyNext_enum_endD (draws_end (A := X.A.in1) (I.ok.hd hc) it a i its.toArray hn hia) he ⟨rfl, hit, ht⟩ fun h' eb => ⟨rfl, I.turned (t' := s.toks) (fun b o hb q => eb b o hb q) f0 f1 f3 f4 f5⟩
  self := by
    intro A i s Q E st h
    obtain ⟨⟨_, he⟩, _⟩ := st
    exact wpAny_pyIter_enum he h
def kEn (K : PySem.W.Frag) (vs : List V) (H1 : Hp) (R : It → Hp → Prop) : Prop := ∃ a xs, vs = [.ref a] ∧ SqT K H1 a xs ∧ R (IteT K a 0) H1
def kEn1 (K : PySem.W.Frag) (vs : List V) (H1 : Hp) (R : It → Hp → Prop) : Prop := ∃ (a : Addr) (xs : List V) (k : Int), vs = [.ref a, .int k] ∧ SqT K H1 a xs ∧ -(2 ^ 62) ≤ k ∧ k < 2 ^ 62 ∧ R (IteT K a k) H1
def iEnT (K : PySem.W.Frag) (ta : TA) : TI := fun σ H R => ta σ H fun vs H1 => kEn K vs H1 R
def iEnT1 (K : PySem.W.Frag) (ta : TA) : TI := fun σ H R => ta σ H fun vs H1 => kEn1 K vs H1 R
theorem fpEn {N b : Addr} (hb : b ∈ [N + 1, N]) : N ≤ b := by
  have z : b = N + 1 ∨ b = N := by simpa using hb
  rcases z with rfl | rfl
  · exact Nat.le_add_right _ _
  · exact Nat.le_refl _
theorem tupIter {h' : Heap} {N a : Addr} (e : h'.get? N = some { cls := .type "tuple_iterator", data := .fields #[.ref a, .int 0 0] }) : h'.IsTupleIter N a 0 := ⟨_, e, rfl, rfl⟩
set_option maxHeartbeats 4000000 in
theorem newEn {v : Value} {o : Obj} {B : Heap → Prop} (b : Begins v o B) : Meets (Builtin.«enumerate.__new__» ⟨[.type "enumerate", v], []⟩) (fun _ R s => B s.heap ∧
    R (.ok (.ret (.ref (s.heap.push o).objs.size))) { s with heap := (s.heap.push o).push { cls := .type "enumerate", data := .fields #[.none, .bool false, .ref s.heap.objs.size, rawInt 0, .none, .none] } }) :=
  Meets.of_wp fun prog w A R s h => by
    obtain ⟨hp, gl, dv, tok, oo⟩ := s
    obtain ⟨hB, h⟩ := h
    have hsub := sub_enumerate
    have it1 : ∀ {A' : Around} {E : Value → Shared → Prop} {Q : Value → Shared → Prop}, Q (.ref hp.objs.size) ⟨hp.push o, gl, dv, tok, oo⟩ → wpAny (model prog w) A' (pyIter v) Q E ⟨hp, gl, dv, tok, oo⟩ := fun q => b.iter prog w _ _ ⟨hp, gl, dv, tok, oo⟩ _ hB q
    wp_walk using it1
    refine wpAny_stack_any fun stk => wpAny_pure ?_
    split
    · rename_i cl _ _ _ _ _
      cases (cl == Value.type "enumerate") <;> (wp_walk using it1; exact ⟨_, rfl, h⟩)
    · (wp_walk using it1; exact ⟨_, rfl, h⟩)
theorem call_enT {prog : Program} {w : World} {A : Around} {E : Value → Shared → Prop} {s : Shared} {a : Addr} {items : Array Value} {Q : Value → Shared → Prop} (ht : s.heap.IsTuple a items)
    (h : ∀ h', IsEnum h' (s.heap.objs.size + 1) s.heap.objs.size 0 .none → h'.IsTupleIter s.heap.objs.size a 0 → (∀ b o, s.heap.get? b = some o → h'.get? b = some o) → Q (.ref (s.heap.objs.size + 1)) { s with heap := h' }) :
    wpAny (model prog w) A (call (.type "enumerate") [.ref a]) Q E s := by
  refine callType_new F.called_enumerate (by decide) (F.typeCall_enumerate_1 _) (F.newCall_enumerate_1 _) (fun x => F.args_object_init_2 x _) F.entry_enumerate_new (newEn (begins_tuple a items)) ⟨ht, ?_⟩
  generalize hoi : ({ cls := .type "tuple_iterator", data := .fields #[.ref a, .int 0 0] } : Obj) = oi
  have fr : oi.isFreed = false := by rw [← hoi] <;> rfl
  have sz : (s.heap.push oi).objs.size = s.heap.objs.size + 1 := Heap.size_push ..
  show _ ∧ _
  rw [sz]
  generalize hoe : ({ cls := .type "enumerate", data := .fields #[.none, .bool false, .ref s.heap.objs.size, rawInt 0, .none, .none] } : Obj) = oe
  have he : ((s.heap.push oi).push oe).get? (s.heap.objs.size + 1) = some oe := by
    have z := Heap.get?_push_size (s.heap.push oi) (o := oe) (by rw [← hoe] <;> rfl)
    rw [sz] at z
    exact z
  refine ⟨⟨_, he, by rw [← hoe]⟩, h _ ?_ (tupIter ?_) fun b ob x => Heap.get?_push_of_some _ (Heap.get?_push_of_some _ x)⟩
  · show _ = some _
    rw [he, ← hoe]
  · rw [hoi]
    exact Heap.get?_push_of_some _ (Heap.get?_push_size _ fr)
section
variable {X : Cx}
theorem pi_enumT0 {ea : Expr} {ta : TA} {p pos tp : Pos} {es : List Expr} {ck : Nat} (hg : Gl X "enumerate") (hm : X.mg "enumerate" = none) (ha : PA X [ea] ta) (hs : starEach [ea] X.env = [(false, eval ea X.env)] := by rfl) :
    PI X (.Tuple es ck tp) (.Call (.Name "enumerate" p) [ea] [] pos) (iEnT X.K ta) := by
  refine ⟨fun pins s σ H R I h => ?_⟩
  refine Call_ (ld_blt I hg hm boot_enumerate (PyProof.Rows.callWith_type1 (thn (ha.run pos pins s σ H _ I h) fun us s1 ⟨vs, H1, I1, r1, q1⟩ => ?_) hs rfl))
  obtain ⟨a, xs, ex, hq, q⟩ := q1
  subst ex
  cases r1 with
  | cons r rr =>
    cases rr
    cases r
    obtain ⟨its, rv, p', hz⟩ := I1.tuple hq
    have ht : s1.heap.IsTuple a its.toArray := p'
    refine call_enT ht fun h' he hit hk => wpAny_pyIter_enum he ?_
    have I2 : Inv X pins σ H1 { s1 with heap := h' } := I1.kept (t' := s1.toks) hk
    refine ⟨s1.heap.objs.size + 1, [s1.heap.objs.size + 1, s1.heap.objs.size], _, _, H1, rfl, I2, turn_enT a (s1.heap.objs.size + 1) s1.heap.objs.size 0, ⟨⟨.none, ?_⟩, hit, Nat.succ_ne_self _⟩, fun b hb => I1.fpOk (fpEn hb) (I1.hok.fresh (fpEn hb)), q⟩
    have e0 : (0 : Int) + ((0 : Nat) : Int) = 0 := rfl
    rw [e0]
    exact he
theorem pi_enumT1 {ea eb : Expr} {ta : TA} {p pos tp : Pos} {es : List Expr} {ck : Nat} (hg : Gl X "enumerate") (hm : X.mg "enumerate" = none) (ha : PA X [ea, eb] ta) (hs : starEach [ea, eb] X.env = [(false, eval ea X.env), (false, eval eb X.env)] := by rfl) (hs2 : starEach [eb] X.env = [(false, eval eb X.env)] := by rfl) :
    PI X (.Tuple es ck tp) (.Call (.Name "enumerate" p) [ea, eb] [] pos) (iEnT1 X.K ta) := by
  refine ⟨fun pins s σ H R I h => ?_⟩
  refine Call_ (ld_blt I hg hm boot_enumerate (PyProof.Rows.callWith_type1 (thn (ha.run pos pins s σ H _ I h) fun us s1 ⟨vs, H1, I1, r1, q1⟩ => ?_) (by rw [hs, hs2]) (by rw [hs2]; rfl)))
  obtain ⟨a, xs, k, ex, hq, k0, k1, q⟩ := q1
  subst ex
  cases r1 with
  | cons r rr =>
    cases rr with
    | cons r' rr =>
      cases rr
      cases r
      obtain ⟨t', rfl⟩ := r'
      obtain ⟨its, rv, p', hz⟩ := I1.tuple hq
      refine enum_begins (begins_tuple a its.toArray) p' (by omega) (by omega) fun h' he hit hsz hk => wpAny_pyIter_enum he ?_
      have I2 : Inv X pins σ H1 { s1 with heap := h' } := I1.kept (t' := s1.toks) hk
      refine ⟨s1.heap.objs.size + 1, [s1.heap.objs.size + 1, s1.heap.objs.size], _, _, H1, rfl, I2, turn_enT a (s1.heap.objs.size + 1) s1.heap.objs.size k, ⟨⟨.none, ?_⟩, tupIter hit, Nat.succ_ne_self _⟩, fun b hb => I1.fpOk (fpEn hb) (I1.hok.fresh (fpEn hb)), q⟩
      have e0 : k + ((0 : Nat) : Int) = k := Int.add_zero k
      rw [e0]
      exact he
end
section
variable {σ : L2.St} {H : Hp} {A : TA} {n : L2.St → Hp → Prop} {r : VK} {b c : L2.St → Hp → Prop} {K : PySem.W.Frag} {g : TG} {a : Addr} {xs : List V} {tb : TS}
theorem w_iEn {R : It → Hp → Prop} (h : A σ H fun vs H1 => kEn K vs H1 R) : iEnT K A σ H R := h
theorem w_iEn1 {R : It → Hp → Prop} (h : A σ H fun vs H1 => kEn1 K vs H1 R) : iEnT1 K A σ H R := h
theorem for_enT {D : Ends} {k : Int} (Pv : Nat → L2.St → Hp → Prop) (h0 : Pv 0 σ H) (hl : ∀ i σ' H', i ≤ xs.length → Pv i σ' H' → SqT K H' a xs)
    (hs : ∀ i x σ' H' p, xs[i]? = some x → i < xs.length → Pv i σ' H' → H' p = none → g (.ref p) σ' (upd H' p (.tup [.int (k + (i : Int)), x])) fun σ2 H2 => tb { D with nx := Pv (i + 1), ct := Pv (i + 1), bk := D.nx } σ2 H2) (hd : ∀ σ' H', Pv xs.length σ' H' → D.nx σ' H') : kFor (IteT K a k) H g tb D σ := by
  refine ⟨fun i m σ' H' => m + i = xs.length ∧ Pv i σ' H', ⟨xs.length, rfl, h0⟩, fun i m σ' H' ⟨hm, hp⟩ => ?_⟩
  by_cases hi : i < xs.length
  · refine .inr ⟨⟨xs, xs[i], hl i σ' H' (by omega) hp, List.getElem?_eq_getElem hi⟩, Pv (i + 1), fun σ2 H2 h2 => ⟨m - 1, by omega, by omega, h2⟩, fun x H2 y => ?_⟩
    obtain ⟨p, z, rfl, e1, rfl, e2⟩ := y
    exact hs i z σ' H' p (e2 xs (hl i σ' H' (by omega) hp)) hi hp e1
  · have e : i = xs.length := by omega
    subst e
    exact .inl ⟨⟨xs, hl _ σ' H' (Nat.le_refl _) hp, Nat.le_refl _⟩, hd σ' H' hp⟩
theorem w_forEn (hx : SqT K H a xs) (Pv : Nat → L2.St → Hp → Prop) (h0 : Pv 0 σ H) (hl : ∀ i σ' H', i ≤ xs.length → Pv i σ' H' → SqT K H' a xs)
    (hs : ∀ i x σ' H' p, xs[i]? = some x → i < xs.length → Pv i σ' H' → H' p = none → g (.ref p) σ' (upd H' p (.tup [.int (i : Int), x])) fun σ2 H2 => tb ⟨Pv (i + 1), r, n, Pv (i + 1)⟩ σ2 H2) (hd : ∀ σ' H', Pv xs.length σ' H' → n σ' H') : kEn K [.ref a] H fun J H1 => kFor J H1 g tb ⟨n, r, b, c⟩ σ :=
  ⟨a, xs, rfl, hx, for_enT (D := ⟨n, r, b, c⟩) Pv h0 hl (fun i x σ' H' p e1 e2 e3 e4 => by
    rw [Int.zero_add]
    exact hs i x σ' H' p e1 e2 e3 e4) hd⟩
theorem w_forEn1 {k : Int} (hk : -1000000 ≤ k ∧ k ≤ 1000000) (hx : SqT K H a xs) (Pv : Nat → L2.St → Hp → Prop) (h0 : Pv 0 σ H) (hl : ∀ i σ' H', i ≤ xs.length → Pv i σ' H' → SqT K H' a xs)
    (hs : ∀ i x σ' H' p, xs[i]? = some x → i < xs.length → Pv i σ' H' → H' p = none → g (.ref p) σ' (upd H' p (.tup [.int (k + (i : Int)), x])) fun σ2 H2 => tb ⟨Pv (i + 1), r, n, Pv (i + 1)⟩ σ2 H2) (hd : ∀ σ' H', Pv xs.length σ' H' → n σ' H') : kEn1 K [.ref a, .int k] H fun J H1 => kFor J H1 g tb ⟨n, r, b, c⟩ σ :=
  ⟨a, xs, k, rfl, hx, by omega, by omega, for_enT (D := ⟨n, r, b, c⟩) Pv h0 hl hs hd⟩
end
end Hue
set_option Elab.async false
set_option linter.all false
set_option maxRecDepth 100000
set_option maxHeartbeats 4000000
set_option autoImplicit false
namespace Hue
open PySem PySem.Spec PyProof.Rows L2
/-- what the top has written -/
structure Txt (K : PySem.W.Frag) (mg : Str → Option Value) : Prop where
  b_isinstance : mg "isinstance" = none
  b_int : mg "int" = none
  b_bool : mg "bool" = none
  b_tuple : mg "tuple" = none
  b_str : mg "str" = none
  b_len : mg "len" = none
  b_enumerate : mg "enumerate" = none
  b_min : mg "min" = none
  b_sum : mg "sum" = none
  b_range : mg "range" = none
  b_abs : mg "abs" = none
  b_list : mg "list" = none
  i_LEAST_SIZE : ∃ t, mg "LEAST_SIZE" = some (.int 2 t)
  i_MOST_SIZE : ∃ t, mg "MOST_SIZE" = some (.int 10000 t)
  i_MOST_PORT : ∃ t, mg "MOST_PORT" = some (.int 5 t)
  i_MOST_HUES_codes : ∃ t, mg "MOST_HUES_codes" = some (.int 5 t)
  i_MOST_BANK : ∃ t, mg "MOST_BANK" = some (.int 600 t)
  i_MOST_CELLS_codes : ∃ t, mg "MOST_CELLS_codes" = some (.int 4000 t)
  i_MANY_REGISTERS : ∃ t, mg "MANY_REGISTERS" = some (.int 8 t)
  i_MOST_HUES_laying : ∃ t, mg "MOST_HUES_laying" = some (.int 5 t)
  i_MOST_CELLS_compiling : ∃ t, mg "MOST_CELLS_compiling" = some (.int 4000 t)
  gTWOS : mg "TWOS" = some (.ref (He.ga K "TWOS"))
  sTWOS : ∀ H, SqT K H (He.ga K "TWOS") [.str "plus", .str "minus", .str "times", .str "rest", .str "less", .str "same"]
  gBlock : mg "Block" = some (.ref (He.ga K "Block"))
  clBlock : Cls K (He.ga K "Block")
  mkBlock : Mk K (He.ga K "Block") (He.ma K (He.ga K "Block") "__init__")
  n_b_keys : NoAttr K (He.ga K "Block") "b_keys"
  n_b_owns : NoAttr K (He.ga K "Block") "b_owns"
  n_b_settle : NoAttr K (He.ga K "Block") "b_settle"
  m_is_bare : Meth K (He.ga K "Block") "is_bare" (He.ma K (He.ga K "Block") "is_bare")
  m_many : Meth K (He.ga K "Block") "many" (He.ma K (He.ga K "Block") "many")
  g_HueError : mg "HueError" = some (.ref (He.ga K "HueError"))
  g_BadVotes : mg "BadVotes" = some (.ref (He.ga K "BadVotes"))
  g_BadCode : mg "BadCode" = some (.ref (He.ga K "BadCode"))
  g_BadHue : mg "BadHue" = some (.ref (He.ga K "BadHue"))
  g_TooLarge : mg "TooLarge" = some (.ref (He.ga K "TooLarge"))
  x_BadVotes : PySem.W.excIn K (He.ga K "BadVotes") He.veBase "ValueError.__new__" = true ∧ PySem.W.keepIn K (.ref (He.ga K "BadVotes")) = true ∧ PySem.W.subIn K (.ref (He.ga K "BadVotes")) (.type "BaseException") = some true ∧ PySem.W.typeIn K (.ref (He.ga K "BadVotes")) = some (.type "type")
  e_BadVotes : PySem.W.exmOne K (.ref (He.ga K "BadVotes")) (.ref (He.ga K "HueError")) = some true
  x_BadCode : PySem.W.excIn K (He.ga K "BadCode") He.veBase "ValueError.__new__" = true ∧ PySem.W.keepIn K (.ref (He.ga K "BadCode")) = true ∧ PySem.W.subIn K (.ref (He.ga K "BadCode")) (.type "BaseException") = some true ∧ PySem.W.typeIn K (.ref (He.ga K "BadCode")) = some (.type "type")
  e_BadCode : PySem.W.exmOne K (.ref (He.ga K "BadCode")) (.ref (He.ga K "HueError")) = some true
  x_BadHue : PySem.W.excIn K (He.ga K "BadHue") He.veBase "ValueError.__new__" = true ∧ PySem.W.keepIn K (.ref (He.ga K "BadHue")) = true ∧ PySem.W.subIn K (.ref (He.ga K "BadHue")) (.type "BaseException") = some true ∧ PySem.W.typeIn K (.ref (He.ga K "BadHue")) = some (.type "type")
  e_BadHue : PySem.W.exmOne K (.ref (He.ga K "BadHue")) (.ref (He.ga K "HueError")) = some true
  x_TooLarge : PySem.W.excIn K (He.ga K "TooLarge") He.veBase "ValueError.__new__" = true ∧ PySem.W.keepIn K (.ref (He.ga K "TooLarge")) = true ∧ PySem.W.subIn K (.ref (He.ga K "TooLarge")) (.type "BaseException") = some true ∧ PySem.W.typeIn K (.ref (He.ga K "TooLarge")) = some (.type "type")
  e_TooLarge : PySem.W.exmOne K (.ref (He.ga K "TooLarge")) (.ref (He.ga K "HueError")) = some true
  c_BadVotes : ExcC K (He.ga K "BadVotes")
  k_BadVotes : PySem.W.kitOne K (.ref (He.ga K "BadVotes")) (.ref (He.ga K "BadVotes")) = some true
  c_BadCode : ExcC K (He.ga K "BadCode")
  k_BadCode : PySem.W.kitOne K (.ref (He.ga K "BadCode")) (.ref (He.ga K "BadCode")) = some true
  c_TooLarge : ExcC K (He.ga K "TooLarge")
  k_TooLarge : PySem.W.kitOne K (.ref (He.ga K "TooLarge")) (.ref (He.ga K "TooLarge")) = some true
end Hue
set_option Elab.async false
set_option linter.all false
set_option maxRecDepth 100000
set_option maxHeartbeats 4000000
set_option autoImplicit false
namespace Hue
open PySem PySem.Spec PyProof.Rows L2
/-! ### data that == is asked of -/
def ND (n : Nat) (d : PyData) : Prop := d.canLay0 = true ∧ d.depth ≤ n
def NDs (n : Nat) (ds : List PyData) : Prop := PyData.canLayAll0 ds = true ∧ PyData.depthAll ds ≤ n
theorem ND.sh {n : Nat} {d : PyData} (h : ND n d) (hn : n ≤ 64) : SeqAt.shaped d = true := by
  unfold SeqAt.shaped
  rw [h.1, Bool.true_and]
  exact decide_eq_true (Nat.le_trans h.2 hn)
theorem NDs.nil {n : Nat} : NDs n [] := ⟨rfl, Nat.zero_le _⟩
theorem NDs.cons {n : Nat} {d : PyData} {ds : List PyData} (h : ND n d) (hs : NDs n ds) : NDs n (d :: ds) := by
  refine ⟨?_, ?_⟩
  · show (d.canLay0 && PyData.canLayAll0 ds) = true
    rw [h.1, hs.1] <;> rfl
  · show max d.depth (PyData.depthAll ds) ≤ n
    exact Nat.max_le.mpr ⟨h.2, hs.2⟩
theorem NDs.list {n : Nat} {ds : List PyData} (h : NDs n ds) : ND (n + 1) (.list ds) := ⟨h.1, by
  show PyData.depthAll ds + 1 ≤ n + 1
  exact Nat.succ_le_succ h.2⟩
theorem NDs.tuple {n : Nat} {ds : List PyData} (h : NDs n ds) : ND (n + 1) (.tuple ds) := ⟨h.1, by
  show PyData.depthAll ds + 1 ≤ n + 1
  exact Nat.succ_le_succ h.2⟩
theorem ND.int {n : Nat} {i : Int} : ND n (.int i) := ⟨rfl, Nat.zero_le _⟩
theorem ND.str {n : Nat} {i : Str} (h : PyData.strOk i = true) : ND n (.str i) := ⟨h, Nat.zero_le _⟩
theorem ND.bool {n : Nat} {i : Bool} : ND n (.bool i) := ⟨rfl, Nat.zero_le _⟩
theorem ND.none {n : Nat} : ND n .none := ⟨rfl, Nat.zero_le _⟩
theorem NDs.map {α : Type} {n : Nat} {f : α → PyData} : ∀ {xs : List α}, (∀ x ∈ xs, ND n (f x)) → NDs n (xs.map f)
  | [], _ => .nil
  | x :: xs, h => .cons (h x List.mem_cons_self) (NDs.map fun y hy => h y (List.mem_cons_of_mem _ hy))
/-- a flat value as data -/
def toD : V → PyData
  | .bl b => .bool b
  | .int i => .int i
  | .str s => .str s
  | _ => .none
/-- a flat value whose text (if it is one) can be laid -/
def okV : V → Bool
  | .non => true
  | .bl _ => true
  | .int _ => true
  | .str s => PyData.strOk s
  | _ => false
theorem ok_flat {v : V} (h : okV v = true) : flatV v = true := by
  cases v <;> first | rfl | cases h
theorem ok_flats : ∀ {vs : List V}, vs.all okV = true → vs.all flatV = true
  | [], _ => rfl
  | v :: vs, h => by
    have h' : (okV v && vs.all okV) = true := h
    obtain ⟨h1, h2⟩ := Bool.and_eq_true_iff.mp h'
    show (flatV v && vs.all flatV) = true
    rw [ok_flat h1, ok_flats h2] <;> rfl
theorem ND.flat {n : Nat} {v : V} (h : okV v = true) : ND n (toD v) := by
  cases v with
  | bl b => exact .bool
  | int i => exact .int
  | str s => exact .str h
  | _ => exact .none
theorem NDs.flat {n : Nat} : ∀ {vs : List V}, vs.all okV = true → NDs n (vs.map toD)
  | [], _ => .nil
  | v :: vs, h => by
    have h' : (okV v && vs.all okV) = true := h
    obtain ⟨h1, h2⟩ := Bool.and_eq_true_iff.mp h'
    exact .cons (.flat h1) (.flat h2)
theorem ixN_n {n j : Nat} (hj : j < n) : ixN n (j : Int) = some j := by
  unfold ixN
  rw [if_pos (by omega), if_pos (by omega)]
  simp
theorem seq0 {n : Nat} (h : 0 < n) : seqIndex? 0 n = some 0 := (ixN_seq (i := 0) (j := 0) (ixN_n (j := 0) h)).1
section
variable {K : PySem.W.Frag} {H H' : Hp}
theorem dp_flat {v : V} (h : flatV v = true) : Dp K H v (toD v) := by
  cases v with
  | bl b => exact .bl b
  | int i => exact .int i
  | str s => exact .str s
  | non => exact .non
  | _ => cases h
theorem dpAll_flat : ∀ {vs : List V}, vs.all flatV = true → DpAll K H vs (vs.map toD)
  | [], _ => .nil
  | v :: vs, h => by
    have h' : (flatV v && vs.all flatV) = true := h
    obtain ⟨h1, h2⟩ := Bool.and_eq_true_iff.mp h'
    exact .cons (dp_flat h1) (dpAll_flat h2)
theorem flat_ints : ∀ ns : List Int, (ns.map V.int).all flatV = true
  | [] => rfl
  | _ :: ns => flat_ints ns
theorem toD_ints (ns : List Int) : (ns.map V.int).map toD = ns.map PyData.int := by
  rw [List.map_map]
  rfl
theorem dpAll_ints (ns : List Int) : DpAll K H (ns.map V.int) (ns.map PyData.int) := by
  have h := dpAll_flat (K := K) (H := H) (flat_ints ns)
  rw [toD_ints] at h
  exact h
theorem dpAll_len : ∀ {vs : List V} {ds : List PyData}, DpAll K H vs ds → vs.length = ds.length
  | _, _, .nil => rfl
  | _, _, .cons _ h => congrArg Nat.succ (dpAll_len h)
theorem dpAll_get : ∀ {vs : List V} {ds : List PyData} {i : Nat} {v : V}, DpAll K H vs ds → vs[i]? = some v → ∃ d, ds[i]? = some d ∧ Dp K H v d
  | _, _, _, _, .nil, h => by cases h
  | _, _, 0, _, .cons h1 _, h => by
    cases h
    exact ⟨_, rfl, h1⟩
  | _, _, i + 1, _, .cons _ h2, h => dpAll_get (i := i) h2 h
theorem dpAll_app : ∀ {vs ws : List V} {ds es : List PyData}, DpAll K H vs ds → DpAll K H ws es → DpAll K H (vs ++ ws) (ds ++ es)
  | _, _, _, _, .nil, h => h
  | _, _, _, _, .cons h1 h2, h => .cons h1 (dpAll_app h2 h)
theorem eqvAll_nil (ds : List PyData) : PyData.eqvAll ds [] = ds.isEmpty := by
  cases ds <;> rfl
theorem isEmpty_len {α β : Type} {xs : List α} {ys : List β} (h : xs.length = ys.length) : xs.isEmpty = ys.isEmpty := by
  cases xs <;> cases ys <;> first | rfl | cases h
/-- xs != [], xs == [] -/
theorem w_neE {p q : Addr} {xs : List V} {ds : List PyData} {n : Nat} {Q : VK} (hp : SqL K H p xs) (hd : DpAll K H xs ds) (hn : NDs n ds) (h64 : n ≤ 63) (hq : SqL K H q []) (h : Q (.bl (!xs.isEmpty)) H) : rNeD K (.ref p) (.ref q) H Q := by
  refine ⟨.list ds, .list [], .lst hp hd, .lst hq .nil, hn.list.sh (by omega), (NDs.nil (n := 0)).list.sh (by omega), ?_⟩
  show Q (.bl (!PyData.eqvAll ds [])) H
  rw [eqvAll_nil, ← isEmpty_len (dpAll_len hd)]
  exact h
theorem w_eqE {p q : Addr} {xs : List V} {ds : List PyData} {n : Nat} {Q : VK} (hp : SqL K H p xs) (hd : DpAll K H xs ds) (hn : NDs n ds) (h64 : n ≤ 63) (hq : SqL K H q []) (h : Q (.bl xs.isEmpty) H) : rEqD K (.ref p) (.ref q) H Q := by
  refine ⟨.list ds, .list [], .lst hp hd, .lst hq .nil, hn.list.sh (by omega), (NDs.nil (n := 0)).list.sh (by omega), ?_⟩
  show Q (.bl (PyData.eqvAll ds [])) H
  rw [eqvAll_nil, ← isEmpty_len (dpAll_len hd)]
  exact h
/-- equal data -/
theorem w_neR {x y : V} {d : PyData} {n : Nat} {Q : VK} (hx : Dp K H x d) (hy : Dp K H y d) (hn : ND n d) (h64 : n ≤ 64) (h : Q (.bl false) H) : rNeD K x y H Q := by
  refine ⟨d, d, hx, hy, hn.sh h64, hn.sh h64, ?_⟩
  rw [SeqAt.eqv_refl d hn.1]
  exact h
end
end Hue
set_option Elab.async false
set_option linter.all false
set_option maxRecDepth 100000
set_option maxHeartbeats 4000000
set_option autoImplicit false
namespace Hue
open PySem PySem.Spec PyProof.Rows L2
/-! ### instructions and cells -/
inductive Ins where
  | set (b n : Int)
  | two (w : Str) (b c d : Int)
  | get (b c base len : Int)
  | put (b c base len : Int)
  | offer (b : Int)
def Ins.its : Ins → List V
  | .set b n => [.str "set", .int b, .int n]
  | .two w b c d => [.str w, .int b, .int c, .int d]
  | .get b c base len => [.str "get", .int b, .int c, .int base, .int len]
  | .put b c base len => [.str "put", .int b, .int c, .int base, .int len]
  | .offer b => [.str "offer", .int b]
inductive Cell where
  | ins (h : Int) (i : Ins)
  | shw (p w : Int)
  | turn (g w : Int)
  | take (b w : Int)
  | goto (g : Int)
  | stop
  | mark
def Cell.its : Cell → List V
  | .ins h i => .int h :: i.its
  | .shw p w => [.str "show", .int p, .int w]
  | .turn g w => [.str "turn", .int g, .int w]
  | .take b w => [.str "take", .int b, .int w]
  | .goto g => [.str "goto", .int g]
  | .stop => [.str "stop"]
  | .mark => [.str "mark"]
def twos : List Str := [("plus" : Str), ("minus" : Str), ("times" : Str), ("rest" : Str), ("less" : Str), ("same" : Str)]
def Reg (b : Int) : Prop := 0 ≤ b ∧ b ≤ 7
def Ins.Ok (m nb : Int) : Ins → Prop
  | .set b n => Reg b ∧ 0 ≤ n ∧ n < m
  | .two w b c d => w ∈ twos ∧ Reg b ∧ Reg c ∧ Reg d
  | .get b c base len => Reg b ∧ Reg c ∧ 0 ≤ base ∧ 1 ≤ len ∧ base + len ≤ nb
  | .put b c base len => Reg b ∧ Reg c ∧ 0 ≤ base ∧ 1 ≤ len ∧ base + len ≤ nb
  | .offer b => Reg b
def Cell.Ok (h m nb many : Int) : Cell → Prop
  | .ins i x => 0 ≤ i ∧ i < h ∧ x.Ok m nb
  | .shw p w => 0 ≤ p ∧ p ≤ 5 ∧ 1 ≤ w ∧ w ≤ h
  | .turn g w => 0 ≤ g ∧ g < many ∧ 1 ≤ w ∧ w ≤ h
  | .take b w => Reg b ∧ 1 ≤ w ∧ w ≤ h
  | .goto g => 0 ≤ g ∧ g < many
  | .stop => True
  | .mark => True
/-- votes -/
def VotesOk (vs : List Int) : Prop := 1 ≤ vs.length ∧ vs.length ≤ 5 ∧ ∀ (i : Nat) (v : Int), vs[i]? = some v → (i : Int) + 1 < 2 * v ∧ v ≤ (i : Int) + 1
/-- a code -/
structure Code where
  votes : List Int
  size : Int
  cells : List Cell
  bank : List Int
structure Code.Ok (C : Code) : Prop where
  v : VotesOk C.votes
  s : 2 ≤ C.size ∧ C.size ≤ 10000
  b : C.bank.length ≤ 600
  bn : ∀ n ∈ C.bank, 0 ≤ n ∧ n < C.size
  c : 1 ≤ C.cells.length ∧ C.cells.length ≤ 4000
  cn : ∀ x ∈ C.cells, x.Ok C.votes.length C.size C.bank.length C.cells.length
/-- the items at these addresses -/
def At (H : Hp) (as : List Addr) (xss : List (List V)) : Prop := as.map H = xss.map fun xs => some (HO.tup xs)
theorem At.mono {H H' : Hp} (t : TSub H H') : ∀ {as : List Addr} {xss : List (List V)}, At H as xss → At H' as xss
  | [], [], _ => rfl
  | [], _ :: _, h => by cases h
  | _ :: _, [], h => by cases h
  | a :: as, xs :: xss, h => by
    have h' : H a :: as.map H = some (HO.tup xs) :: xss.map (fun xs => some (HO.tup xs)) := h
    injection h' with h1 h2
    show H' a :: as.map H' = some (HO.tup xs) :: xss.map (fun xs => some (HO.tup xs))
    rw [t a xs h1, At.mono t (as := as) h2]
theorem At.mo (as : List Addr) (xss : List (List V)) : Mono fun H => At H as xss := fun _ _ t h => h.mono t
theorem At.len {H : Hp} {as : List Addr} {xss : List (List V)} (h : At H as xss) : as.length = xss.length := by
  have e := congrArg List.length h
  simpa using e
theorem At.nil {H : Hp} : At H [] [] := rfl
theorem At.app {H : Hp} {as bs : List Addr} {xss yss : List (List V)} (h : At H as xss) (h2 : At H bs yss) : At H (as ++ bs) (xss ++ yss) := by
  unfold At at *
  rw [List.map_append, List.map_append, h, h2]
theorem At.one {H : Hp} {a : Addr} {xs : List V} (h : H a = some (.tup xs)) : At H [a] [xs] := by
  unfold At
  rw [List.map_singleton, List.map_singleton, h]
theorem At.get {H : Hp} {as : List Addr} {xss : List (List V)} {i : Nat} {xs : List V} (h : At H as xss) (hi : xss[i]? = some xs) : ∃ a, as[i]? = some a ∧ H a = some (.tup xs) := by
  have e : (as.map H)[i]? = (xss.map fun xs => some (HO.tup xs))[i]? := by rw [h]
  rw [List.getElem?_map, List.getElem?_map, hi] at e
  obtain ⟨a, h1, h2⟩ := Option.map_eq_some_iff.mp e
  exact ⟨a, h1, h2⟩
theorem At.get' {H : Hp} {as : List Addr} {xss : List (List V)} {i : Nat} {a : Addr} (h : At H as xss) (hi : as[i]? = some a) : ∃ xs, xss[i]? = some xs ∧ H a = some (.tup xs) := by
  have e : (as.map H)[i]? = (xss.map fun xs => some (HO.tup xs))[i]? := by rw [h]
  rw [List.getElem?_map, List.getElem?_map, hi] at e
  obtain ⟨xs, h1, h2⟩ := Option.map_eq_some_iff.mp e.symm
  exact ⟨xs, h1, h2.symm⟩
theorem At.refs {as : List Addr} {i : Nat} {x : V} (h : (as.map V.ref)[i]? = some x) : ∃ a, as[i]? = some a ∧ x = .ref a := by
  rw [List.getElem?_map] at h
  obtain ⟨a, h1, h2⟩ := Option.map_eq_some_iff.mp h
  exact ⟨a, h1, h2.symm⟩
theorem take_map {α β : Type} (f : α → β) {xs : List α} {k : Nat} {x : α} (h : xs[k]? = some x) : (xs.take (k + 1)).map f = (xs.take k).map f ++ [f x] := by
  rw [List.take_add_one, h, List.map_append]
  rfl
theorem Ins.ne (i : Ins) : i.its ≠ [] := by
  cases i <;> intro h <;> cases h
theorem Ins.le (i : Ins) : i.its.length ≤ 5 := by
  cases i <;> exact Nat.le_of_ble_eq_true rfl
theorem Ins.flat (i : Ins) : i.its.all flatV = true := by
  cases i <;> rfl
theorem isEmpty_map {α β : Type} (f : α → β) (xs : List α) : (xs.map f).isEmpty = xs.isEmpty := by cases xs <;> rfl
theorem atI_0 {v : V} {vs : List V} : atI (v :: vs) 0 = some v := atI_nat (j := 0) rfl
theorem int_map {xs : List Int} {i : Nat} {x : V} (h : (xs.map V.int)[i]? = some x) : ∃ z, xs[i]? = some z ∧ x = .int z := by
  rw [List.getElem?_map] at h
  obtain ⟨z, e1, e2⟩ := Option.map_eq_some_iff.mp h
  exact ⟨z, e1, e2.symm⟩
theorem map_snoc (gs : List Int) (z : Int) : gs.map V.int ++ [V.int z] = (gs ++ [z]).map V.int := by
  rw [List.map_append]
  rfl
/-- tuples as data -/
def tD (xs : List V) : PyData := .tuple (xs.map toD)
theorem At.dp {K : PySem.W.Frag} {H : Hp} : ∀ {as : List Addr} {xss : List (List V)}, At H as xss → (∀ xs ∈ xss, xs.all okV = true) → DpAll K H (as.map V.ref) (xss.map tD)
  | [], [], _, _ => .nil
  | [], _ :: _, h, _ => by cases h
  | _ :: _, [], h, _ => by cases h
  | a :: as, xs :: xss, h, hf => by
    have h' : H a :: as.map H = some (HO.tup xs) :: xss.map (fun xs => some (HO.tup xs)) := h
    injection h' with h1 h2
    exact .cons (.tup (SqT.of h1) (dpAll_flat (ok_flats (hf xs List.mem_cons_self)))) (At.dp (as := as) h2 fun ys hy => hf ys (List.mem_cons_of_mem _ hy))
theorem NDs.tD {xss : List (List V)} {n : Nat} (hf : ∀ xs ∈ xss, xs.all okV = true) : NDs (n + 1) (xss.map tD) := .map fun xs hx => (NDs.flat (hf xs hx)).tuple
theorem At.drop {H : Hp} {as : List Addr} {xss : List (List V)} (h : At H as xss) (j : Nat) : At H (as.drop j) (xss.drop j) := by
  unfold At at *
  rw [List.map_drop, List.map_drop, h]
def words : List Str := [("set" : Str), ("get" : Str), ("put" : Str), ("offer" : Str), ("show" : Str), ("turn" : Str), ("take" : Str), ("goto" : Str), ("stop" : Str), ("mark" : Str), ("plus" : Str), ("minus" : Str), ("times" : Str), ("rest" : Str), ("less" : Str), ("same" : Str)]
theorem words_ok : (words.all fun w => PyData.strOk w) = true := by decide +kernel
theorem word_ok {w : Str} (h : w ∈ words) : PyData.strOk w = true := List.all_eq_true.mp words_ok w h
theorem twos_ok {w : Str} (h : w ∈ twos) : PyData.strOk w = true := word_ok (by
  unfold twos at h
  unfold words
  simp only [List.mem_cons, List.not_mem_nil, or_false] at h ⊢
  rcases h with e | e | e | e | e | e <;> simp [e])
theorem okS {w : Str} {vs : List V} (h : w ∈ words) (hv : vs.all okV = true) : (V.str w :: vs).all okV = true := by
  show (PyData.strOk w && vs.all Hue.okV) = true
  rw [word_ok h, hv] <;> rfl
theorem Ins.okV {i : Ins} {m nb : Int} (h : i.Ok m nb) : i.its.all okV = true := by
  cases i with
  | two w b c d =>
    show (PyData.strOk w && true) = true
    rw [twos_ok h.1] <;> rfl
  | _ => exact okS (by unfold words; simp) rfl
theorem Cell.okV {x : Cell} {h m nb many : Int} (hx : x.Ok h m nb many) : x.its.all okV = true := by
  cases x with
  | ins j i => exact Ins.okV (i := i) hx.2.2
  | _ => exact okS (by unfold words; simp) rfl
/-- a code stands at v -/
structure CodeAt (H : Hp) (a : Addr) (C : Code) (va ca ba : Addr) (as : List Addr) : Prop where
  top : H a = some (.tup [.ref va, .int C.size, .ref ca, .ref ba])
  vt : H va = some (.tup (C.votes.map V.int))
  ct : H ca = some (.tup (as.map V.ref))
  bt : H ba = some (.tup (C.bank.map V.int))
  cs : At H as (C.cells.map Cell.its)
theorem CodeAt.mono {H H' : Hp} (t : TSub H H') {a : Addr} {C : Code} {va ca ba : Addr} {as : List Addr} (h : CodeAt H a C va ca ba as) : CodeAt H' a C va ca ba as :=
  ⟨t _ _ h.top, t _ _ h.vt, t _ _ h.ct, t _ _ h.bt, h.cs.mono t⟩
theorem CodeAt.mo (a : Addr) (C : Code) (va ca ba : Addr) (as : List Addr) : Mono fun H => CodeAt H a C va ca ba as := fun _ _ t h => h.mono t
def IsCode (H : Hp) (a : Addr) (C : Code) : Prop := ∃ va ca ba as, CodeAt H a C va ca ba as
theorem IsCode.mo (a : Addr) (C : Code) : Mono fun H => IsCode H a C := fun _ _ t ⟨va, ca, ba, as, h⟩ => ⟨va, ca, ba, as, h.mono t⟩
theorem Code.len {H : Hp} {a : Addr} {C : Code} {va ca ba : Addr} {as : List Addr} (h : CodeAt H a C va ca ba as) : as.length = C.cells.length := by
  have e := h.cs.len
  simpa using e
end Hue
set_option Elab.async false
set_option linter.all false
set_option maxRecDepth 100000
set_option maxHeartbeats 4000000
set_option autoImplicit false
namespace Hue
open PySem PySem.Spec PyProof.Rows L2
/-! ### name = {..} over what is walked -/
section
variable {X : Cx}
theorem ps_setDc {i : Nat} {y : Str} {py : Pos} {kx vx tg iter : Expr} {ifs : List Expr} {scope : Scope} {own : List (Str × Nat)} {pos spos : Pos} {wi : TI} {g : TG} {tt : TT} {tk tv : TE} (calm : X.calm = true) (nd : X.N.Nodup) (hy : X.N[i]? = some y) (hyl : X.env.scope.names.lookup y = some .local)
    (hsw : swapsWith (.DictComp kx vx [⟨tg, iter, ifs, 0⟩] scope pos) (some (.Name y py)) spos.line X.env = pure true) (hi : PI X tg iter wi) (ok : BlkOk X.N X.env.scope scope own)
    (pg : ∀ (s : Shared) (H : Hp) (C : Addr) (cl : List (Str × Addr)) (fp : List Addr), PG (X.blk s H scope (compEnvC scope cl C X.env) fp) tg g) (pt : ∀ (s : Shared) (H : Hp) (C : Addr) (cl : List (Str × Addr)) (fp : List Addr), PTs (X.blk s H scope (compEnvC scope cl C X.env) fp) ifs tt)
    (pk : ∀ (s : Shared) (H : Hp) (C : Addr) (cl : List (Str × Addr)) (fp : List Addr), PE (X.blk s H scope (compEnvC scope cl C X.env) fp) kx tk)
    (pv : ∀ (s : Shared) (H : Hp) (C : Addr) (cl : List (Str × Addr)) (fp : List Addr), PE (X.blk s H scope (compEnvC scope cl C X.env) fp) vx tv) (hs : ∀ x, foldedSetIterable iter X.env x = pure x := by intro _; rfl) :
    PS X (.Assign [.Name y py] (.DictComp kx vx [⟨tg, iter, ifs, 0⟩] scope pos) spos) (tAsg (tDc wi g tt tk tv (own.map (·.2))) (gName i)) := by
  refine ⟨fun pins s σ H D I hw => ?_⟩
  rw [exec_Assign_Name_used _ _ _ _ hsw]
  refine wpAny_bind (wpAny_standAt (wpAny_bind ?_))
  show wpAny _ X.A (do let _ ← comprehension (.DictComp kx vx [⟨tg, iter, ifs, 0⟩] scope pos) scope X.env (firstIterPos [⟨tg, iter, ifs, 0⟩] pos) newDict false (eval iter X.env) (some (assign (.Name y py) X.env))) _ _ s
  have hw : tDc wi g tt tk tv (own.map (·.2)) σ H (fun x H1 => gName i x σ H1 D.nx) := hw
  refine wpAny_bind (thn (dc_core (Qf := fun _ s' => SP X pins D .next s') calm nd I hi ok pg pt pk pv hs hw fun L C s' m H' I' q hn fo => ?_) fun _ s' hq => wpAny_pure (wpAny_pure hq))
  show wpAny _ _ (assign (.Name y py) X.env (.ref L)) _ _ _
  refine wpAny_assign_Name (store_ok2 (v := V.ref L) I' nd hy (.inl hyl) rfl (fun s2 I2 ⟨a, sb, ha⟩ => ?_) (.inr hyl))
  obtain ⟨f0, f1, f2, f3, f4, f5⟩ := fo
  have ne : C ≠ a := by
    rcases ha with z | z
    · intro e
      exact f1 (by rw [e, z])
    · exact fun e => f4 y a z e.symm
  refine ⟨m, hn.sameBut sb ne, fun h3 sb3 => ⟨_, H', I2.turned (t' := s2.toks) (fun b o hb e => (sb3.2 b hb).trans e) f0 f1 f3 f4 f5, q⟩⟩
theorem sw_trueD {kx vx : Expr} {gs : List Comprehension} {scope : Scope} {pos py : Pos} {y : Str} {l : Nat} {env : Env} (hk : env.scope.kind = .function) (hy : env.scope.names.lookup y = some .local) (hl : (py.line == pos.line) = true)
    (ha : (scope.names.any fun (n, k) => n == y && (k == .local || k == .cell)) = false) : swapsWith (.DictComp kx vx gs scope pos) (some (.Name y py)) l env = pure true := by
  have k1 : env.kindOf y = some .local := hy
  have k2 : env.blockKind = .function := by
    unfold Env.blockKind
    rw [hk] <;> rfl
  unfold swapsWith
  simp only [k2, k1, ha, Expr.pos, hl] <;> rfl
end
/-! ### dicts by ints -/
section
variable {σ : L2.St} {H H1 : Hp} {Q : VK} {A : TA} {n : L2.St → Hp → Prop} {r : VK} {b c : L2.St → Hp → Prop} {K : PySem.W.Frag} {g : TG} {a : Addr} {xs : List V} {tb : TS} {td ty tv te tk : TE} {tt : TT} {vs : List Nat} {x y v z : V}
variable {H0 : Hp} {M : List Addr} {R L : Obs} {T : Tps} {P : Hp → Prop}
def kDIn (y x : V) (H : Hp) (Q : VK) : Prop := ∃ a o, x = .ref a ∧ DGet H a y o ∧ Q (.bl o.isSome) H
theorem w_din (h : ty σ H fun y H1 => td σ H1 fun x H2 => kDIn y x H2 Q) : tDIn ty td σ H Q := h
theorem w_kDIn {kvs : List (Key × V)} {i : Int} (ha : H a = some (.dK kvs)) (h : Q (.bl (valV kvs (Sum.inl i : Key)).isSome) H) : kDIn (.int i) (.ref a) H Q := ⟨a, _, rfl, DGet.k (k := Sum.inl i) ha, h⟩
theorem w_kGetI {kvs : List (Key × V)} {i : Int} (ha : H a = some (.dK kvs)) (hv : valV kvs (Sum.inl i : Key) = some v) (h : Q v H) : kGet (.ref a) (.int i) H Q := ⟨a, v, rfl, by
  have e := DGet.k (k := Sum.inl i) ha
  rw [hv] at e
  exact e, h⟩
theorem w_kPutI (kn : Kn H0 M R H L T P) (j : Nat) {kvs : List (Key × V)} {i : Int} (hj : L[j]? = some (a, .dK kvs)) (hs : kvs.length ≤ 100000) {Z : Hp → Prop} (h : ∀ H', Kn H0 M R H' (L.set j (a, .dK (putK kvs (Sum.inl i : Key) v))) T P → Z H') : kPut (.ref a) (.int i) v H Z :=
  ⟨a, _, rfl, DPut.k (k := Sum.inl i) (v := v) (kn.l j hj) (Nat.lt_of_le_of_lt hs (by decide)), h _ (kn.put _ hj rfl)⟩
theorem w_dnew (kn : Kn H0 M R H L T P) (h : ∀ p H', Kn H0 M R H' ((p, .dK []) :: L) T P → Q (.ref p) H') : tDNewK σ H Q := fun p hp => h p _ (kn.new (.dK []) hp rfl)
def kDc (J : It) (H1 : Hp) (g : TG) (tt : TT) (tk tv : TE) (vs : List Nat) (σ : L2.St) (Q : VK) : Prop := ∀ D, H1 D = none → ∃ W : Nat → Nat → Hp → Prop, (∃ m, W 0 m (upd H1 D (.dK []))) ∧ ∀ i m H, W i m H →
  (J.stop i H ∧ Q (.ref D) H) ∨ (J.go i H ∧ ∃ Nx : Hp → Prop, (∀ H', Nx H' → ∃ m', m' < m ∧ W (i + 1) m' H') ∧ ∀ x H', J.yld i H x H' → g x (wipe σ vs) H' fun σ2 H2 => wipe σ2 vs = wipe σ vs ∧ tt σ2 H2 fun b H3 =>
    if b = true then tk σ2 H3 fun y H4 => tv σ2 H4 fun z H5 => ∃ kvs k, y = kV k ∧ H5 D = some (.dK kvs) ∧ kvs.length < sizeLine ∧ Nx (upd H5 D (.dK (putK kvs k z))) else Nx H3)
theorem w_dc {wi : TI} (h : wi σ H fun J H1 => kDc J H1 g tt tk tv vs σ Q) : tDc wi g tt tk tv vs σ H Q := h
def kAccD (D : Addr) (H5 : Hp) (y z : V) (Z : Hp → Prop) : Prop := ∃ kvs k, y = kV k ∧ H5 D = some (.dK kvs) ∧ kvs.length < sizeLine ∧ Z (upd H5 D (.dK (putK kvs k z)))
theorem w_kAccD {D : Addr} {kvs : List (Key × V)} {i : Int} {Z : Hp → Prop} (kn : Kn H0 M R H L T P) (j : Nat) (hj : L[j]? = some (D, .dK kvs)) (hs : kvs.length ≤ 100000) (h : ∀ H', Kn H0 M R H' (L.set j (D, .dK (putK kvs (Sum.inl i : Key) z))) T P → Z H') : kAccD D H (.int i) z Z :=
  ⟨kvs, Sum.inl i, rfl, kn.l j hj, Nat.lt_of_le_of_lt hs (by decide), h _ (kn.put _ hj rfl)⟩
def kTurnD (g : TG) (tt : TT) (tk tv : TE) (vs : List Nat) (σ : L2.St) (D : Addr) (x : V) (H : Hp) (Z : Hp → Prop) : Prop :=
  g x (wipe σ vs) H fun σ2 H2 => kStep vs σ σ2 (tt σ2 H2 fun b H3 => kIf b (tk σ2 H3 fun y H4 => tv σ2 H4 fun z H5 => kAccD D H5 y z Z) (Z H3))
theorem w_kTurnD {D : Addr} {x : V} {Z : Hp → Prop} (h : g x (wipe σ vs) H fun σ2 H2 => kStep vs σ σ2 (tt σ2 H2 fun b H3 => kIf b (tk σ2 H3 fun y H4 => tv σ2 H4 fun z H5 => kAccD D H5 y z Z) (Z H3))) : kTurnD g tt tk tv vs σ D x H Z := h
theorem w_dcT (kn : Kn H0 M R H L T P) (hx : SqT K H a xs) (Pv : Addr → Nat → Hp → Prop) (h0 : ∀ D H', Kn H0 M R H' ((D, .dK []) :: L) T P → Pv D 0 H') (hl : ∀ D i H', i ≤ xs.length → Pv D i H' → SqT K H' a xs)
    (hs : ∀ D i x H', xs[i]? = some x → i < xs.length → Pv D i H' → kTurnD g tt tk tv vs σ D x H' (Pv D (i + 1))) (hd : ∀ D H', Pv D xs.length H' → Q (.ref D) H') : kIT K (.ref a) H fun J H1 => kDc J H1 g tt tk tv vs σ Q :=
  ⟨a, rfl, ⟨xs, hx⟩, fun D hD => dc_tup (Pv D) (h0 D _ (kn.new (.dK []) hD rfl)) (hl D) (fun i x H' e p => hs D i x H' e (List.getElem?_eq_some_iff.mp e).1 p) (hd D)⟩
/-! ### instances -/
def kFld (K : PySem.W.Frag) (f : Str) (x : V) (H : Hp) (Q : VK) : Prop := ∃ a C dx fs v, x = .ref a ∧ H a = some (.ins C dx fs) ∧ Cls K C ∧ NoAttr K C f ∧ fs.lookup f = some v ∧ Q v H
def kFldS (K : PySem.W.Frag) (f : Str) (x y : V) (H : Hp) (Z : Hp → Prop) : Prop := ∃ a C dx fs, x = .ref a ∧ H a = some (.ins C dx fs) ∧ Cls K C ∧ NoAttr K C f ∧ fs.length < 1000 ∧ Z (upd H a (.ins C dx (putF f y fs)))
theorem w_fld {f : Str} (h : te σ H fun x H1 => kFld K f x H1 Q) : tFld K te f σ H Q := h
theorem w_fldS {f : Str} (h : tv σ H fun y H1 => te σ H1 fun x H2 => kFldS K f x y H2 fun H3 => n σ H3) : sFld K te tv f ⟨n, r, b, c⟩ σ H := h
def kMeth (C : Addr) (m : Str) (x : V) (H : Hp) (Z : Prop) : Prop := ∃ a dx fs, x = .ref a ∧ H a = some (.ins C dx fs) ∧ fs.lookup m = none ∧ Z
theorem w_meth {C : Addr} {m : Str} {sp : Sp} {E : XK} (h : te σ H fun x H1 => kMeth C m x H1 (A σ H1 fun vs H2 => sp (x :: (vs ++ [])) H2 Q E)) : tMeth C m sp [] E te A σ H Q := by
  obtain h := h
  unfold tMeth
  have e : (fun x H1 => kMeth C m x H1 (A σ H1 fun vs H2 => sp (x :: (vs ++ [])) H2 Q E)) = fun x H1 => ∃ a dx fs, x = .ref a ∧ H1 a = some (.ins C dx fs) ∧ fs.lookup m = none ∧ A σ H1 fun vs H2 => sp (x :: (vs ++ [])) H2 Q E := rfl
  rw [e] at h
  exact h
def kMake (C : Addr) (sp : Sp) (E : XK) (vs : List V) (H1 : Hp) (Q : VK) : Prop := ∀ x dx, H1 x = none → H1 dx = none → dx ≠ x →
  sp (.ref x :: (vs ++ [])) (upd (upd H1 dx (.own x)) x (.ins C dx [])) (fun v H2 => v = .non ∧ Q (.ref x) H2) E
theorem w_make {C : Addr} {sp : Sp} {E : XK} (h : A σ H fun vs H1 => kMake C sp E vs H1 Q) : tMake C sp [] E A σ H Q := h
end
/-! ### methods -/
structure MetAt (K : PySem.W.Frag) (f : Addr) (x q : Str) (st : Stmt) : Prop where
  fd : ∃ fd, FnP K x q st f fd
structure CalM (P : Program) (w : World) (K : PySem.W.Frag) (mg : Str → Option Value) (base : Heap) (CX : CXT) (k : Nat) (f : Addr) (ps : List Str) (sp : Sp) : Prop where
  ex : ∃ fd, FnOk P w K mg base CX k f fd ps sp ∧ Binds K fd ps []
section
variable {P : Program} {w : World} {K : PySem.W.Frag} {mg : Str → Option Value} {base : Heap} {CX : CXT} {x q : Str} {st : Stmt} {N ps : List Str} {k : Nat} {sp : Sp} {f : Addr}
theorem calM_of (D : MetAt K f x q st) (S : FnScope N ps (defScope st))
    (hb : ∀ (kV doc pm : Value) (an : Option Addr) (cdv ct : Value) (us : List Value), us.length = ps.length → bindArgs (PySem.W.fnOf x q (defArgs st) (defBody st) (defScope st) .none kV doc pm an cdv ct) ⟨us, []⟩ = pure (ps.zip us))
    (len : ∀ vs H Q E, sp vs H Q E → vs.length = ps.length)
    (hbody : ∀ (cdv : Value) (A : Around) (outer : List Env) (s : Shared) (H : Hp) (vs : List V) (Q : VK) (E : XK), Room k (A.deeper (envOfC q (defScope st) s.heap.objs.size f cdv)) → sp vs H Q E →
      ∃ t, PSs (cxOf CX P w K mg base N q (defScope st) f cdv A outer s H E) (defBody st) t ∧ t ⟨fun _ H' => Q .non H', Q, fun _ _ => False, fun _ _ => False⟩ (L2.start N vs) H) : CalM P w K mg base CX (k + 1) f ps sp := by
  obtain ⟨fd, F⟩ := D.fd
  exact ⟨fd, F.ok S len fun cdv A outer s H vs Q E hr h => hbody cdv A outer s H vs Q E hr h, F.bindsN hb⟩
end
section
variable {X : Cx} {CX : CXT} {k j : Nat} {f C : Addr} {ps : List Str} {sp : Sp} {E : XK} {x m : Str} {p pos apos : Pos} {e o : Expr} {es : List Expr} {ta : TE} {t : TA}
theorem pe_mth {pl : Sem Bool} (he : PE X o ta) (c : Cls X.K C) (hm : Meth X.K C m f) (M : CalM X.prog X.w X.K X.mg X.base CX k f ps sp) (hr : Room j X.A) (hk : k ≤ j) (hx : Passes CX X E) (ha : PA X (e :: es) t)
    (hst : starEach (e :: es) X.env = (false, eval e X.env) :: starEach es X.env := by rfl) (hpl : (backTo pos (starEach es X.env)).any (·.1) = false := by rfl)
    (ht : eval (.Call (.Attribute o m apos) (e :: es) [] pos) X.env = (do
      let ov ← eval o X.env
      standAt apos.atName
      let (fv, frst) ← holding [ov] (getMethod ov m pl)
      callWith pos fv frst (backTo pos (starEach (e :: es) X.env)) (backToKw pos (keywordEach [] X.env))) := by rfl) :
    PE X (.Call (.Attribute o m apos) (e :: es) [] pos) (tMeth C m sp [] E ta t) := by
  obtain ⟨fd, F, b⟩ := M.ex
  exact pe_meth he c hm F (hr.mono hk) b .nil hx ha hst hpl ht
theorem pe_mth0 {pl : Sem Bool} (he : PE X o ta) (c : Cls X.K C) (hm : Meth X.K C m f) (M : CalM X.prog X.w X.K X.mg X.base CX k f ps sp) (hr : Room j X.A) (hk : k ≤ j) (hx : Passes CX X E)
    (ht : eval (.Call (.Attribute o m apos) [] [] pos) X.env = (do
      let ov ← eval o X.env
      standAt apos.atName
      let (fv, frst) ← holding [ov] (getMethod ov m pl)
      callWith pos fv frst (backTo pos (starEach [] X.env)) (backToKw pos (keywordEach [] X.env))) := by rfl) :
    PE X (.Call (.Attribute o m apos) [] [] pos) (tMeth C m sp [] E ta tNil) := by
  obtain ⟨fd, F, b⟩ := M.ex
  exact pe_meth0 he c hm F (hr.mono hk) b .nil hx ht
theorem pe_mk0 (Mm : Mk X.K C f) (M : CalM X.prog X.w X.K X.mg X.base CX k f ps sp) (hr : Room j X.A) (hk : k + 1 ≤ j) (hg : Gl X x) (hm : X.mg x = some (.ref C)) (hx : Passes CX X E) (hdb : (x == ("__debug__" : Str)) = false := by decide) : PE X (.Call (.Name x p) [] [] pos) (tMake C sp [] E tNil) := by
  obtain ⟨fd, F, b⟩ := M.ex
  exact pe_make0 Mm F (hr.mono hk) hg hm b .nil hx hdb
end
/-! ### blocks -/
abbrev blkF (k o s : V) : List (Str × V) := [(("b_keys" : Str), k), (("b_owns" : Str), o), (("b_settle" : Str), s)]
abbrev oBlk (K : PySem.W.Frag) (dx : Addr) (k o s : V) : HO := .ins (He.ga K "Block") dx (blkF k o s)
theorem lk_keys {k o s : V} : (blkF k o s).lookup ("b_keys" : Str) = some k := by
  unfold blkF
  rw [List.lookup_cons]
  rw [show ((("b_keys" : Str) == ("b_keys" : Str)) : Bool) = true from by decide +kernel]
theorem lk_owns {k o s : V} : (blkF k o s).lookup ("b_owns" : Str) = some o := by
  unfold blkF
  rw [List.lookup_cons, show ((("b_owns" : Str) == ("b_keys" : Str)) : Bool) = false from by decide +kernel]
  show List.lookup _ _ = _
  rw [List.lookup_cons, show ((("b_owns" : Str) == ("b_owns" : Str)) : Bool) = true from by decide +kernel]
theorem lk_settle {k o s : V} : (blkF k o s).lookup ("b_settle" : Str) = some s := by
  unfold blkF
  rw [List.lookup_cons, show ((("b_settle" : Str) == ("b_keys" : Str)) : Bool) = false from by decide +kernel]
  show List.lookup _ _ = _
  rw [List.lookup_cons, show ((("b_settle" : Str) == ("b_owns" : Str)) : Bool) = false from by decide +kernel]
  show List.lookup _ _ = _
  rw [List.lookup_cons, show ((("b_settle" : Str) == ("b_settle" : Str)) : Bool) = true from by decide +kernel]
theorem put_settle {k o s v : V} : putF "b_settle" v (blkF k o s) = blkF k o v := by
  unfold blkF
  unfold putF
  rw [if_neg (show ¬ ((("b_keys" : Str)) = ("b_settle" : Str)) from by decide +kernel)]
  unfold putF
  rw [if_neg (show ¬ ((("b_owns" : Str)) = ("b_settle" : Str)) from by decide +kernel)]
  unfold putF
  rw [if_pos rfl]
theorem lk_meth {k o s : V} {m : Str} (h1 : (m == ("b_keys" : Str)) = false) (h2 : (m == ("b_owns" : Str)) = false) (h3 : (m == ("b_settle" : Str)) = false) : (blkF k o s).lookup m = none := by
  unfold blkF
  rw [List.lookup_cons, h1]
  show List.lookup _ _ = _
  rw [List.lookup_cons, h2]
  show List.lookup _ _ = _
  rw [List.lookup_cons, h3] <;> rfl
section
variable {K : PySem.W.Frag} {mg : Str → Option Value} {H : Hp} {a dx : Addr} {k o s : V} {Q : VK}
theorem w_fKeys (T : Txt K mg) (ha : H a = some (oBlk K dx k o s)) (h : Q k H) : kFld K "b_keys" (.ref a) H Q := ⟨a, _, dx, _, k, rfl, ha, T.clBlock, T.n_b_keys, lk_keys, h⟩
theorem w_fOwns (T : Txt K mg) (ha : H a = some (oBlk K dx k o s)) (h : Q o H) : kFld K "b_owns" (.ref a) H Q := ⟨a, _, dx, _, o, rfl, ha, T.clBlock, T.n_b_owns, lk_owns, h⟩
theorem w_fSettle (T : Txt K mg) (ha : H a = some (oBlk K dx k o s)) (h : Q s H) : kFld K "b_settle" (.ref a) H Q := ⟨a, _, dx, _, s, rfl, ha, T.clBlock, T.n_b_settle, lk_settle, h⟩
theorem w_mth {m : Str} {Z : Prop} (ha : H a = some (oBlk K dx k o s)) (hm : ((m == ("b_keys" : Str)) || (m == ("b_owns" : Str)) || (m == ("b_settle" : Str))) = false) (h : Z) : kMeth (He.ga K "Block") m (.ref a) H Z := by
  simp only [Bool.or_eq_false_iff] at hm
  exact ⟨a, dx, _, rfl, ha, lk_meth hm.1.1 hm.1.2 hm.2, h⟩
theorem w_sSettle {H0 : Hp} {M : List Addr} {R L : Obs} {TT : Tps} {P : Hp → Prop} {v : V} {Z : Hp → Prop} (T : Txt K mg) (kn : Kn H0 M R H L TT P) (j : Nat) (hj : L[j]? = some (a, oBlk K dx k o s)) (h : ∀ H', Kn H0 M R H' (L.set j (a, oBlk K dx k o v)) TT P → Z H') : kFldS K "b_settle" (.ref a) v H Z :=
  ⟨a, _, dx, _, rfl, kn.l j hj, T.clBlock, T.n_b_settle, by show 3 < 1000; decide, h _ (by rw [put_settle]; exact kn.put _ hj rfl)⟩
end
end Hue
set_option Elab.async false
set_option linter.all false
set_option maxRecDepth 100000
set_option maxHeartbeats 4000000
set_option autoImplicit false
namespace Hue
open PySem PySem.Spec PyProof.Rows L2
/-! ### tuple * 1, tuple * 0 -/
theorem mul1 (l : Addr) (items : Array Value) (n : Nat) (dd : Option Addr) (sl : Array (Option Value)) (u : Tok) :
    Meets (Builtin.«tuple.__mul__» ⟨[.ref l, .int 1 u], []⟩) (fun _ R s => s.heap.get? l = some { cls := .type "tuple", dict := dd, data := .seq items n, slots := sl } ∧ R (.ok (.ret (Value.ref l))) s) :=
  Meets.of_wp fun prog w A R s h => by
    obtain ⟨hp, gl, dv, tok, oo⟩ := s
    obtain ⟨hl, h⟩ := h
    have f1 := AutoSeq1.idx_int
    have hty : Shared.TypeIs ⟨hp, gl, dv, tok, oo⟩ (.ref l) "tuple" := ⟨_, hl, rfl⟩
    have c1 : (items.isEmpty || (1 : Int) == 1) = true := by rw [Bool.or_eq_true]; exact .inr rfl
    wp_walk using wpAny_loadPart' hl
    repeat (first
      | (refine wpAny_ite_true (by rw [decide_eq_true_eq]; exact c1) ?_; wp_walk using wpAny_loadPart' hl)
      | (refine wpAny_ite_true (decide_eq_true c1) ?_; wp_walk using wpAny_loadPart' hl))
    exact ⟨_, rfl, h⟩
theorem mul0 (l : Addr) (items : Array Value) (n : Nat) (dd : Option Addr) (sl : Array (Option Value)) (u : Tok) (hne : items.isEmpty = false) :
    Meets (Builtin.«tuple.__mul__» ⟨[.ref l, .int 0 u], []⟩) (fun _ R s => s.heap.get? l = some { cls := .type "tuple", dict := dd, data := .seq items n, slots := sl } ∧
      R (.ok (.ret (Value.ref s.heap.objs.size))) { s with heap := s.heap.push { cls := Value.type "tuple", data := Data.seq #[] }, toks := s.toks }) :=
  Meets.of_wp fun prog w A R s h => by
    obtain ⟨hp, gl, dv, tok, oo⟩ := s
    obtain ⟨hl, h⟩ := h
    have f1 := AutoSeq1.idx_int
    have c1 : (items.isEmpty || (0 : Int) == 1) = false := by rw [hne] <;> rfl
    have c2 : (decide ((0 : Int) ≤ 0) || items.isEmpty) = true := by rw [Bool.or_eq_true]; exact .inl rfl
    wp_walk using wpAny_loadPart' hl
    repeat (first
      | (refine wpAny_ite_false (decide_eq_false (by rw [c1]; exact Bool.false_ne_true)) ?_; wp_walk using wpAny_loadPart' hl)
      | (refine wpAny_ite_true (decide_eq_true c2) ?_; wp_walk using wpAny_loadPart' hl))
    exact ⟨_, rfl, h⟩
def rRepA (K : PySem.W.Frag) : R2 := fun x y H Q => ∃ l xs, x = .ref l ∧ SqT K H l xs ∧ xs ≠ [] ∧ ((y = .int 1 ∧ Q (.ref l) H) ∨ (y = .int 0 ∧ ∀ p, H p = none → Q (.ref p) (upd H p (.tup []))))
section
variable {X : Cx} {K : PySem.W.Frag}
theorem op_repA0 : OpR X (binaryOp .Mult) (rRepA X.K) := by
  intro pins s σ H x y v u Q I rx ry h
  obtain ⟨l, xs, rfl, hT, hne, hq⟩ := h
  cases rx
  obtain ⟨its, r, ⟨⟨cls, dd, data, sl⟩, ho, hc, n, hd⟩, hs⟩ := I.tuple hT
  simp only at hc hd
  subst hc hd
  have hle : its.length = xs.length := r.length.symm
  have hi : its.toArray.isEmpty = false := by
    cases its with
    | nil => exact absurd (List.eq_nil_of_length_eq_zero hle.symm) hne
    | cons a b => rfl
  rcases hq with ⟨rfl, q⟩ | ⟨rfl, q⟩
  · obtain ⟨t, rfl⟩ := ry
    exact wpAny_binaryOp_repeat_ref (T := "tuple") (U := "int") (by decide) ⟨_, ho, rfl⟩ (fun s' => typeIs_int s' 1 t) noFill_tuple_mul F.fills_int_mul F.slot_int_rmul repeat_tuple F.slot_int_index.lookup
      (call_meets F.slot_int_rmul (typeIs_int s 1 t) F.entry_int_rmul (F.args_int_rmul_2 _ _) (int_rmul_tuple 1 t l its.toArray n dd sl)
        ⟨ho, rfl, ⟨_, ho, rfl⟩, call_meets F.slot_tuple_mul ⟨_, ho, rfl⟩ F.entry_tuple_mul (F.args_tuple_mul_2 _ _) (mul1 l its.toArray n dd sl t) ⟨ho, .ref l, H, I, rfl, q⟩⟩)
  · obtain ⟨t, rfl⟩ := ry
    refine wpAny_binaryOp_repeat_ref (T := "tuple") (U := "int") (by decide) ⟨_, ho, rfl⟩ (fun s' => typeIs_int s' 0 t) noFill_tuple_mul F.fills_int_mul F.slot_int_rmul repeat_tuple F.slot_int_index.lookup
      (call_meets F.slot_int_rmul (typeIs_int s 0 t) F.entry_int_rmul (F.args_int_rmul_2 _ _) (int_rmul_tuple 0 t l its.toArray n dd sl)
        ⟨ho, rfl, ⟨_, ho, rfl⟩, call_meets F.slot_tuple_mul ⟨_, ho, rfl⟩ F.entry_tuple_mul (F.args_tuple_mul_2 _ _) (mul0 l its.toArray n dd sl t hi) ⟨ho, ?_⟩⟩)
    refine ⟨.ref s.heap.objs.size, _, I.laid (t' := s.toks) (o := .tup []) (fun b ob q => Heap.get?_push_of_some _ q) (Nat.le_refl _) ?_, rfl, q _ (I.hok.fresh (Nat.le_refl _))⟩
    exact ⟨Nat.zero_le _, [], .nil, IsTup.new _ _⟩
theorem op_repA (h : X.K = K := by rfl) : OpR X (binaryOp .Mult) (rRepA K) := h ▸ op_repA0
end
section
variable {H0 H : Hp} {M : List Addr} {R L : Obs} {T : Tps} {P : Hp → Prop} {Q : VK} {K : PySem.W.Frag} {l : Addr} {xs : List V}
theorem w_rep1 (hp : SqT K H l xs) (hne : xs ≠ []) (h : Q (.ref l) H) : rRepA K (.ref l) (.int 1) H Q := ⟨l, xs, rfl, hp, hne, .inl ⟨rfl, h⟩⟩
theorem w_rep0 (kn : Kn H0 M R H L T P) (hp : SqT K H l xs) (hne : xs ≠ []) (h : ∀ p H', Kn H0 M R H' L ((p, []) :: T) P → Q (.ref p) H') : rRepA K (.ref l) (.int 0) H Q := ⟨l, xs, rfl, hp, hne, .inr ⟨rfl, fun p hq => h p _ (kn.tup [] hq)⟩⟩
end
end Hue
set_option Elab.async false
set_option linter.all false
set_option maxRecDepth 100000
set_option maxHeartbeats 4000000
set_option autoImplicit false
set_option hygiene false in
local macro_rules | `(tactic| walk_at "hg") => `(tactic| first | exact kn.l 0 rfl | exact kn.l 1 rfl | exact kn.l 2 rfl | exact kn.l 3 rfl | exact kn.l 4 rfl | exact kn.l 5 rfl | exact kn.l 6 rfl | exact kn.t 0 rfl | exact kn.t 1 rfl | exact kn.t 2 rfl | exact kn.t 3 rfl | exact kn.r 0 rfl | exact kn.r 1 rfl | exact kn.r 2 rfl | exact kn.l 7 rfl | exact kn.l 8 rfl | exact kn.l 9 rfl | exact kn.t 4 rfl | exact kn.t 5 rfl | exact kn.t 6 rfl | exact kn.r 3 rfl | assumption)
set_option hygiene false in
local macro_rules | `(tactic| walk_at "hsq") => `(tactic| first | exact .inl (SqL.of (kn.l 0 rfl)) | exact .inl (SqL.of (kn.l 1 rfl)) | exact .inl (SqL.of (kn.l 2 rfl)) | exact .inl (SqL.of (kn.l 3 rfl)) | exact .inl (SqL.of (kn.l 4 rfl)) | exact .inl (SqL.of (kn.l 5 rfl)) | exact .inr (SqT.of (kn.t 0 rfl)) | exact .inr (SqT.of (kn.t 1 rfl)) | exact .inr (SqT.of (kn.t 2 rfl)) | exact .inr (SqT.of (kn.t 3 rfl)) | exact .inl (SqL.of (kn.r 0 rfl)) | exact .inl (SqL.of (kn.r 1 rfl)) | exact .inl (SqL.of (kn.r 2 rfl)) | exact .inr (T.sTWOS _) | exact .inl (by assumption) | exact .inr (by assumption))
set_option hygiene false in
local macro_rules | `(tactic| walk_at "ht") => `(tactic| first | exact SqT.of (kn.t 0 rfl) | exact SqT.of (kn.t 1 rfl) | exact SqT.of (kn.t 2 rfl) | exact SqT.of (kn.t 3 rfl) | exact SqT.of (kn.t 4 rfl) | exact SqT.of (kn.t 5 rfl) | exact T.sTWOS _ | exact SqT.of (by assumption) | assumption)
set_option hygiene false in
local macro_rules | `(tactic| walk_at "hl") => `(tactic| first | exact SqL.of (kn.l 0 rfl) | exact SqL.of (kn.l 1 rfl) | exact SqL.of (kn.l 2 rfl) | exact SqL.of (kn.l 3 rfl) | exact SqL.of (kn.l 4 rfl) | exact SqL.of (kn.l 5 rfl) | exact SqL.of (kn.r 0 rfl) | exact SqL.of (kn.r 1 rfl) | exact SqL.of (kn.r 2 rfl) | exact SqL.of (by assumption) | assumption)
set_option hygiene false in
local macro_rules | `(tactic| walk_at "nd") => `(tactic| first | exact nd_st | exact nd_w | exact nd_h | assumption | decide +kernel)
set_option hygiene false in
local macro_rules | `(tactic| walk_at "ix") => `(tactic| first | refine w_ix 0 (by walk_at "nd") rfl rfl ?_ | refine w_ix 1 (by walk_at "nd") rfl rfl ?_ | refine w_ix 2 (by walk_at "nd") rfl rfl ?_ | refine w_ix 3 (by walk_at "nd") rfl rfl ?_ | refine w_ix 4 (by walk_at "nd") rfl rfl ?_ | refine w_ix 5 (by walk_at "nd") rfl rfl ?_ | refine w_ix 6 (by walk_at "nd") rfl rfl ?_ | refine w_ix 7 (by walk_at "nd") rfl rfl ?_ | refine w_ix 8 (by walk_at "nd") rfl rfl ?_ | refine w_ix 9 (by walk_at "nd") rfl rfl ?_ | refine w_ix 10 (by walk_at "nd") rfl rfl ?_)
set_option hygiene false in
local macro_rules | `(tactic| walk_at "ty") => `(tactic| first | exact ty_i | exact ty_s | exact ty_b | exact ty_n | exact ty_t (by walk_at "hg") | exact ty_l (by walk_at "hg"))
set_option hygiene false in
local macro_rules | `(tactic| walk_at "kt") => `(tactic| first | exact k_ii | exact k_ib | exact k_is | exact k_it | exact k_bi | exact k_bb | exact k_si | exact k_ss | exact k_st | exact k_tt | exact k_ti | exact k_ts | exact k_lt | exact k_li | exact k_nt | exact k_ni | exact k_ns)
set_option hygiene false in
local macro_rules | `(tactic| walk_at "w1") => `(tactic| first
  | with_reducible refine w_seq ?_ | with_reducible refine w_asg ?_ | with_reducible refine w_ret ?_ | with_reducible refine w_drop ?_ | with_reducible refine w_next ?_ | with_reducible refine w_if ?_
  | ((with_reducible apply w_var); exact rfl) | with_reducible refine w_c ?_ | with_reducible refine w_op ?_ | with_reducible refine w_un ?_ | with_reducible refine w_cons ?_ | with_reducible refine w_nil ?_
  | with_reducible refine w_test ?_ | with_reducible refine w_tB ?_ | with_reducible refine w_kB ?_ | with_reducible refine w_and ?_ | with_reducible refine w_or ?_ | with_reducible refine w_not ?_
  | with_reducible refine w_andV ?_ | with_reducible refine w_orV ?_ | with_reducible refine w_notV ?_ | with_reducible refine w_ifE ?_ | with_reducible refine w_chain ?_
  | with_reducible refine kIf_t ?_ | with_reducible refine kIf_f ?_ | with_reducible refine kIf_n ?_ | ((with_reducible show kIf _ _ _); first | refine kIf_y rfl ?_ | refine kIf_no rfl ?_)
  | with_reducible refine w_tget ?_ | ((with_reducible apply w_kGet1); walk_at "hg") | ((with_reducible show kIx _ _ _ _ _); walk_at "ix") | with_reducible refine w_tput ?_ | with_reducible refine w_rSetD ?_
  | with_reducible refine w_par ?_ | with_reducible refine w_kTwo ?_ | with_reducible refine w_par3 ?_ | with_reducible refine w_kThree ?_ | with_reducible refine w_gName ?_ | with_reducible refine w_gNil ?_ | with_reducible refine w_gCons ?_ | with_reducible refine w_gSub ?_ | ((with_reducible apply w_gTup); walk_at "ht"; exact rfl) | ((with_reducible apply w_gLst); walk_at "hl"; exact rfl) | with_reducible refine w_asgG ?_
  | with_reducible refine w_for ?_ | with_reducible refine w_iL ?_ | with_reducible refine w_iT ?_ | with_reducible refine w_iR ?_ | with_reducible refine w_iR2 ?_ | with_reducible refine w_iEn ?_ | with_reducible refine w_iEn1 ?_ | with_reducible refine w_lc ?_ | with_reducible refine w_kTurn ?_ | ((with_reducible refine w_kStep ?_ ?_); exact rfl) | with_reducible refine w_yes ?_
  | with_reducible refine w_pairs0 ?_ | with_reducible refine w_pairs ?_ | with_reducible refine w_tup ?_ | with_reducible refine w_lst ?_ | with_reducible refine w_cb ?_ | with_reducible refine w_cl ?_ | with_reducible refine w_bm ?_ | with_reducible refine w_bm0 ?_ | ((with_reducible apply w_tyL); walk_at "hg")
  | with_reducible refine w_sl ?_ | with_reducible refine w_noPart ?_ | with_reducible refine w_part ?_ | with_reducible refine w_kPart ?_
  | with_reducible refine w_rI0 ?_ | with_reducible refine w_rU ?_ | with_reducible refine w_eqI ?_ | with_reducible refine w_neI ?_ | with_reducible refine w_eqIS ?_ | with_reducible refine w_retN ?_ | with_reducible refine w_eqS_t ?_ | with_reducible refine w_neS_f ?_
  | ((with_reducible refine w_eqS_f ?_ ?_); decide +kernel) | ((with_reducible refine w_neS_t ?_ ?_); decide +kernel)
  | with_reducible refine w_isN_n ?_ | with_reducible refine w_isN_i ?_ | with_reducible refine w_isN_r ?_ | with_reducible refine w_notN_n ?_ | with_reducible refine w_notN_sn ?_ | with_reducible refine w_notN_ss ?_ | with_reducible refine w_isN_sn ?_ | with_reducible refine w_isN_ss ?_ | with_reducible refine w_notN_i ?_ | with_reducible refine w_notN_r ?_
  | ((with_reducible apply w_len); walk_at "hsq") | with_reducible refine w_int ?_ | with_reducible refine w_intB ?_ | with_reducible refine w_abs ?_ | with_reducible refine w_min2 ?_
  | ((with_reducible apply w_ixT); walk_at "ht"; exact rfl) | ((with_reducible apply w_ixL); walk_at "hl"; exact rfl)
  | ((with_reducible apply w_isi); walk_at "ty"; walk_at "kt")
  | with_reducible refine w_fld ?_ | with_reducible refine w_fldS ?_ | with_reducible refine w_meth ?_ | with_reducible refine w_make ?_ | with_reducible refine w_din ?_ | with_reducible refine w_dc ?_ | with_reducible refine w_kTurnD ?_ | ((with_reducible apply w_fKeys T); walk_at "hg") | ((with_reducible apply w_fOwns T); walk_at "hg") | ((with_reducible apply w_fSettle T); walk_at "hg") | ((with_reducible apply w_mth); walk_at "hg"; decide +kernel) | ((with_reducible apply w_kDIn); walk_at "hg")
  | with_reducible refine w_sp0 ?_ | with_reducible refine w_sp1 ?_ | with_reducible refine w_sp2 ?_ | with_reducible refine w_sp3 ?_ | with_reducible refine w_sp4 ?_ | with_reducible refine w_sp5 ?_)
set_option hygiene false in
local macro_rules | `(tactic| walk_at "wp") => `(tactic| repeat walk_at "w1")

set_option hygiene false in
local macro_rules | `(tactic| walk_at "pm") => `(tactic| simp only [List.filterMap_cons, List.filterMap_nil, List.getElem?_cons_zero, List.getElem?_cons_succ, List.set_cons_zero, List.set_cons_succ, List.drop_succ_cons, List.drop_zero, List.cons_append, List.nil_append] at kn)
namespace Hue
open PySem PySem.Spec PyProof.Rows L2
def N_is_whole : List Str := [("value" : Str)]
theorem sc_is_whole : FnScope N_is_whole [("value" : Str)] (defScope s_is_whole) := ⟨rfl, rfl, rfl, by decide +kernel, rfl, by decide +kernel, by decide +kernel⟩
def N_is_from : List Str := [("value" : Str), ("low" : Str), ("high" : Str)]
theorem sc_is_from : FnScope N_is_from [("value" : Str), ("low" : Str), ("high" : Str)] (defScope s_is_from) := ⟨rfl, rfl, rfl, by decide +kernel, rfl, by decide +kernel, by decide +kernel⟩
/-- whether a value is a whole -/
def isW : V → Bool
  | .int _ => true
  | _ => false
/-- a value that is_whole may be asked of -/
def ValV (H : Hp) : V → Prop
  | .non | .int _ | .bl _ | .str _ => True
  | .ref a => (∃ xs, H a = some (.tup xs)) ∨ ∃ xs, H a = some (.lst xs)
  | _ => False
def rWhole : V → Hp → VK → XK → Prop := fun x H Q _ => ValV H x ∧ Q (.bl (isW x)) H
def isF (x : V) (lo hi : Int) : Bool := match x with
  | .int i => decide (lo ≤ i) && decide (i ≤ hi)
  | _ => false
def rFrom : V → V → V → Hp → VK → XK → Prop := fun x y z H Q _ => ∃ lo hi : Int, y = .int lo ∧ z = .int hi ∧ ValV H x ∧ Q (.bl (isF x lo hi)) H
section
variable {P : Program} {w : World} {K : PySem.W.Frag} {mg : Str → Option Value} {base : Heap}
theorem ok_is_whole (D : DefAt K mg "is_whole" s_is_whole) (T : Txt K mg) : Cal P w K mg base CX0 1 "is_whole" [("value" : Str)] (Sp1 rWhole) := by
  refine cal_of D sc_is_whole (fun _ _ _ _ _ _ us hl => match us, hl with | [_], _ => rfl) (fun vs H Q E h => ?_) (fun f cdv A outer s H vs Q E hr h => ⟨_, PSs.nox ((pss_one (ps_ret (pe_and (pe_callB (cr_isiK (K := K)) (by rfl) T.b_isinstance (by decide +kernel) (pa_cons (pv 0) (pa_cons (pe_bltn (v := .ty "int") (by rfl) T.b_int (by decide +kernel) rfl) pa_nil))) (pe_one (pe_not (pe_callB (cr_isiK (K := K)) (by rfl) T.b_isinstance (by decide +kernel) (pa_cons (pv 0) (pa_cons (pe_bltn (v := .ty "bool") (by rfl) T.b_bool (by decide +kernel) rfl) pa_nil))))))))), ?_⟩)
  · obtain ⟨a, rfl, _⟩ := h
    rfl
  · obtain ⟨x, rfl, hv, q⟩ := h
    cases x with
    | int i =>
      walk_at "wp"
      exact q
    | bl i =>
      walk_at "wp"
      exact q
    | str i =>
      walk_at "wp"
      exact q
    | non =>
      walk_at "wp"
      exact q
    | ref a =>
      rcases hv with ⟨xs, hv⟩ | ⟨xs, hv⟩
      · walk_at "wp"
        exact q
      · walk_at "wp"
        exact q
    | _ => exact hv.elim
theorem ok_is_from (D : DefAt K mg "is_from" s_is_from) (T : Txt K mg) (C_is_whole : Cal P w K mg base CX0 1 "is_whole" [("value" : Str)] (Sp1 rWhole)) :
    Cal P w K mg base CX0 2 "is_from" [("value" : Str), ("low" : Str), ("high" : Str)] (Sp3 rFrom) := by
  refine cal_of D sc_is_from (fun _ _ _ _ _ _ us hl => match us, hl with | [_, _, _], _ => rfl) (fun vs H Q E h => ?_) (fun f cdv A outer s H vs Q E hr h => ⟨_, PSs.nox ((pss_one (ps_ret (pe_and (pe_cl C_is_whole hr (by decide) pass0 rfl (pa_cons (pv 0) pa_nil)) (pe_one (pe_chain op_le op_le (pv 1) (pv 0) (pv 2))))))), ?_⟩)
  · obtain ⟨a, b, c, rfl, _⟩ := h
    rfl
  · obtain ⟨x, y, z, rfl, lo, hi, rfl, rfl, hv, q⟩ := h
    walk_at "wp"
    refine ⟨hv, ?_⟩
    cases x with
    | int i =>
      walk_at "wp"
      refine kIf_d (fun h1 => ?_) fun h1 => ?_
      · walk_at "wp"
        have e : isF (.int i) lo hi = decide (i ≤ hi) := by
          show (decide (lo ≤ i) && decide (i ≤ hi)) = _
          rw [decide_eq_true h1, Bool.true_and]
        rw [e] at q
        exact q
      · have e : isF (.int i) lo hi = false := by
          show (decide (lo ≤ i) && decide (i ≤ hi)) = _
          rw [decide_eq_false h1, Bool.false_and]
        rw [e] at q
        exact q
    | bl i =>
      walk_at "wp"
      exact q
    | str i =>
      walk_at "wp"
      exact q
    | non =>
      walk_at "wp"
      exact q
    | ref a =>
      walk_at "wp"
      exact q
    | _ => exact hv.elim
end
end Hue
set_option Elab.async false
set_option linter.all false
set_option maxRecDepth 100000
set_option maxHeartbeats 4000000
set_option autoImplicit false
namespace Hue
open PySem PySem.Spec PyProof.Rows L2
def N_law_draw : List Str := [("_law_state" : Str), ("_law_room" : Str), ("_law_found" : Str)]
theorem sc_law_draw : FnScope N_law_draw [("_law_state" : Str), ("_law_room" : Str)] (defScope s_law_draw) := ⟨rfl, rfl, rfl, by decide +kernel, rfl, by decide +kernel, by decide +kernel⟩
def N_law_pick : List Str := [("_law_state" : Str), ("_law_some" : Str)]
theorem sc_law_pick : FnScope N_law_pick [("_law_state" : Str), ("_law_some" : Str)] (defScope s_law_pick) := ⟨rfl, rfl, rfl, by decide +kernel, rfl, by decide +kernel, by decide +kernel⟩
def N_law_mixed : List Str := [("_law_state" : Str), ("_law_turn" : Str), ("_law_found" : Str), ("_law_prime" : Str), ("_law_blend" : Str), ("_law_cell" : Str)]
theorem sc_law_mixed : FnScope N_law_mixed [("_law_state" : Str)] (defScope s_law_mixed) := ⟨rfl, rfl, rfl, by decide +kernel, rfl, by decide +kernel, by decide +kernel⟩
/-! ### the state of the draws -/
structure SV where
  gs : List Int
  r : Int
  t : Int
def stK : List Str := [("great" : Str), ("cells" : Str), ("rest" : Str), ("turn" : Str)]
theorem nd_st : stK.Nodup := by decide +kernel
abbrev oSt (g c : Addr) (S : SV) : HO := .dK (zipK stK [.ref g, .ref c, .int S.r, .int S.t])
abbrev oG (S : SV) : HO := .lst (S.gs.map V.int)
structure LS (H : Hp) (st g c : Addr) (cs : List Int) (S : SV) : Prop where
  s : H st = some (oSt g c S)
  g_ : H g = some (oG S)
  c_ : H c = some (.lst (cs.map V.int))
  gc : g ≠ c
  tl : 0 ≤ S.t
theorem LS.sg {H : Hp} {st g c : Addr} {cs : List Int} {S : SV} (l : LS H st g c cs S) : st ≠ g := ne_of l.s l.g_ (by intro z; cases z)
theorem LS.sc {H : Hp} {st g c : Addr} {cs : List Int} {S : SV} (l : LS H st g c cs S) : st ≠ c := ne_of l.s l.c_ (by intro z; cases z)
theorem LS.kn {H : Hp} {st g c : Addr} {cs : List Int} {S : SV} (l : LS H st g c cs S) : Kn H [st, g] [(c, .lst (cs.map V.int))] H [(st, oSt g c S), (g, oG S)] [] (fun _ => True) := by
  refine .start (fun p hp => ?_) ?_ (fun p hp => ?_) (fun p hp => ?_) (fun p hp => ?_) (fun p hp => by cases hp) trivial mono_true
  · have e : p = (c, .lst (cs.map V.int)) := by simpa using hp
    subst e
    refine ⟨l.c_, fun z => ?_⟩
    rcases List.mem_cons.mp z with e | z
    · exact l.sc e.symm
    · have e : c = g := by simpa using z
      exact l.gc e.symm
  · show [st, g].Nodup
    simp [l.sg]
  · rcases List.mem_cons.mp hp with e | hp
    · subst e
      rfl
    · have e : p = (g, oG S) := by simpa using hp
      subst e
      rfl
  · rcases List.mem_cons.mp hp with e | hp
    · subst e
      exact l.s
    · have e : p = (g, oG S) := by simpa using hp
      subst e
      exact l.g_
  · rcases List.mem_cons.mp hp with e | hp
    · subst e
      exact List.mem_cons_self
    · have e : p = (g, oG S) := by simpa using hp
      subst e
      exact List.mem_cons_of_mem _ List.mem_cons_self
/-- behind a def that draws -/
theorem Kn.drawn {H0 H H' : Hp} {M : List Addr} {R L : Obs} {T : Tps} {P : Hp → Prop} {st g c : Addr} {cs : List Int} {o1 o2 : HO} {S' : SV} (kn : Kn H0 M R H ((st, o1) :: (g, o2) :: L) T P) (f : Fm [st, g] H H') (l : LS H' st g c cs S') :
    Kn H0 M R H' ((st, oSt g c S') :: (g, oG S') :: L) T P := by
  refine kn.frame f (fun b hb => ?_) rfl (fun q hq => ?_) fun q hq => ?_
  · rcases List.mem_cons.mp hb with e | hb
    · rw [e]
      exact List.mem_cons_self
    · have e : b = g := by simpa using hb
      rw [e]
      exact List.mem_cons_of_mem _ List.mem_cons_self
  · rcases List.mem_cons.mp hq with e | hq
    · subst e
      rfl
    · rcases List.mem_cons.mp hq with e | hq
      · subst e
        rfl
      · exact kn.nt q (List.mem_cons_of_mem _ (List.mem_cons_of_mem _ hq))
  · rcases List.mem_cons.mp hq with e | hq
    · subst e
      exact .inr l.s
    · rcases List.mem_cons.mp hq with e | hq
      · subst e
        exact .inr l.g_
      · refine .inl ⟨fun z => ?_, List.mem_cons_of_mem _ (List.mem_cons_of_mem _ hq)⟩
        have nd := kn.nd
        have n1 := (List.nodup_cons.mp nd).1
        have n2 := (List.nodup_cons.mp (List.nodup_cons.mp nd).2).1
        have hm : q.1 ∈ L.map (·.1) := List.mem_map.mpr ⟨q, hq, rfl⟩
        rcases List.mem_cons.mp z with e | z
        · exact n1 (List.mem_cons_of_mem _ (e ▸ hm))
        · have e : q.1 = g := by simpa using z
          exact n2 (e ▸ hm)
def rDraw : V → V → Hp → VK → XK → Prop := fun x y H Q _ => ∃ (st g c : Addr) (cs : List Int) (S : SV) (n : Int), x = .ref st ∧ y = .int n ∧ LS H st g c cs S ∧ S.t ≤ 1000000000000 ∧ 0 < n ∧ n ≤ 100000 ∧
  ∀ (k : Int) (H' : Hp) (S' : SV), 0 ≤ k → k < n → Fm [st, g] H H' → LS H' st g c cs S' → S'.t ≤ S.t + 1 → Q (.int k) H'
def rMixed : V → Hp → VK → XK → Prop := fun x H Q _ => ∃ (st g c : Addr) (cs : List Int) (S : SV), x = .ref st ∧ LS H st g c cs S ∧ S.t ≤ 1000000000000 ∧
  ∀ (k : Int) (H' : Hp) (S' : SV), Fm [st, g] H H' → LS H' st g c cs S' → S'.t ≤ S.t + 1 → Q (.int k) H'
/-- a pick of a list: one of its items -/
def rPick : V → V → Hp → VK → XK → Prop := fun x y H Q _ => ∃ (st g c l : Addr) (cs : List Int) (S : SV) (xs : List V), x = .ref st ∧ y = .ref l ∧ LS H st g c cs S ∧ S.t ≤ 1000000000000 ∧ H l = some (.lst xs) ∧ l ≠ g ∧ 0 < xs.length ∧ xs.length ≤ 100000 ∧
  ∀ (i : Nat) (v : V) (H' : Hp) (S' : SV), xs[i]? = some v → Fm [st, g] H H' → LS H' st g c cs S' → S'.t ≤ S.t + 1 → Q v H'
section
variable {P : Program} {w : World} {K : PySem.W.Frag} {mg : Str → Option Value} {base : Heap}
theorem ok_law_draw (D : DefAt K mg "_law_draw" s_law_draw) (T : Txt K mg) (C_law_mixed : Cal P w K mg base CX0 1 "_law_mixed" [("_law_state" : Str)] (Sp1 rMixed)) :
    Cal P w K mg base CX0 2 "_law_draw" [("_law_state" : Str), ("_law_room" : Str)] (Sp2 rDraw) := by
  refine cal_of D sc_law_draw (fun _ _ _ _ _ _ us hl => match us, hl with | [_, _], _ => rfl) (fun vs H Q E h => ?_) (fun f cdv A outer s H vs Q E hr h => ⟨_, PSs.nox ((C8.pss_cut (ps_if (pt_cmpR op_eq (pe_dget (hu_of hr) (pv 0) pe_str (fun _ _ => rfl)) pe_int (nomark _)) (pss_one (ps_dput (hu_of hr) (pv 0) pe_str (pe_ifExp (pt_cmpR (op_neDK (K := K) hr.units) (pe_dget (hu_of hr) (pv 0) pe_str (fun _ _ => rfl)) (pe_lst pa_nil) (nomark _)) (pe_bmK (K := K) PySem.F.plainAttrs_list PySem.F.slot_list_pop PySem.F.type_list_pop mt_popAt (pe_dget (hu_of hr) (pv 0) pe_str (fun _ _ => rfl)) (pa_cons pe_int pa_nil)) (pe_cl C_law_mixed hr (by decide) pass0 rfl (pa_cons (pv 0) pa_nil))) rfl)) pss_nil)
      (pss_cons (ps_set (i := 2) sc_law_draw.nd rfl (Or.inl rfl) (pe_op op_mod (pe_callTy cr_int (by rfl) T.b_int (by decide +kernel) (pa_cons (pe_dget (hu_of hr) (pv 0) pe_str (fun _ _ => rfl)) pa_nil)) (pv 1)))
      (pss_cons (ps_dput (hu_of hr) (pv 0) pe_str (pe_op op_fdiv (pe_dget (hu_of hr) (pv 0) pe_str (fun _ _ => rfl)) (pv 1)) rfl)
      (pss_one (ps_ret (pv 2))))))), ?_⟩)
  · obtain ⟨a, b, rfl, _⟩ := h
    rfl
  · obtain ⟨x, y, rfl, st, g, c, cs, S, n, rfl, rfl, l, hT, h1, h2, q⟩ := h
    have kn := l.kn
    refine ⟨fun σ' H' => ∃ S', σ' = [some (.ref st), some (.int n), none] ∧ 0 ≤ S'.t ∧ S'.t ≤ S.t + 1 ∧ Kn H [st, g] [(c, .lst (cs.map V.int))] H' [(st, oSt g c S'), (g, oG S')] [] (fun _ => True), ?_, fun σ' H' hm => ?_⟩
    · walk_at "wp"
      refine kIf_d (fun e => ?_) fun e => ?_
      · walk_at "wp"
        refine w_kLst kn rfl fun o H1 kn => ?_
        refine w_neE (hp := SqL.of (kn.l 2 rfl)) (dpAll_ints S.gs) (n := 0) (.map fun _ _ => .int) (by decide) (SqL.of (kn.l 0 rfl)) ?_
        walk_at "wp"
        obtain ⟨gs, r, t⟩ := S
        cases gs with
        | nil =>
          walk_at "wp"
          refine ⟨st, g, c, cs, ⟨[], r, t⟩, rfl, ⟨kn.l 1 rfl, kn.l 2 rfl, kn.r 0 rfl, l.gc, l.tl⟩, hT, fun k H2 S2 f2 l2 t2 => ?_⟩
          have kn := kn.drop.drawn f2 l2
          walk_at "wp"
          refine w_kPut kn 0 rfl nd_st rfl 2 rfl rfl fun H3 kn => ?_
          exact ⟨⟨S2.gs, k, S2.t⟩, rfl, l2.tl, t2, kn⟩
        | cons z gs =>
          walk_at "wp"
          refine w_pop kn (i := 0) (m := 0) 2 rfl (by decide) (by decide) (seq0 (by simp)) rfl fun H2 kn => ?_
          walk_at "wp"
          refine w_kPut kn.drop 0 rfl nd_st rfl 2 rfl rfl fun H3 kn => ?_
          exact ⟨⟨gs, z, t⟩, rfl, l.tl, Int.le_add_of_nonneg_right (by decide), kn⟩
      · exact ⟨S, rfl, l.tl, Int.le_add_of_nonneg_right (by decide), kn⟩
    · obtain ⟨S', rfl, t0, t1, kn⟩ := hm
      walk_at "wp"
      refine w_rI h1 ?_
      walk_at "wp"
      refine w_rI ⟨h1, by omega⟩ ?_
      walk_at "wp"
      refine w_kPut kn 0 rfl nd_st rfl 2 rfl rfl fun H3 kn => ?_
      walk_at "wp"
      exact q _ _ ⟨S'.gs, S'.r / n, S'.t⟩ (Int.emod_nonneg _ (by omega)) (Int.emod_lt_of_pos _ h1) kn.fr ⟨kn.l 0 rfl, kn.l 1 rfl, kn.r 0 rfl, l.gc, t0⟩ t1
theorem ok_law_pick (D : DefAt K mg "_law_pick" s_law_pick) (T : Txt K mg) (C_law_draw : Cal P w K mg base CX0 2 "_law_draw" [("_law_state" : Str), ("_law_room" : Str)] (Sp2 rDraw)) :
    Cal P w K mg base CX0 3 "_law_pick" [("_law_state" : Str), ("_law_some" : Str)] (Sp2 rPick) := by
  refine cal_of D sc_law_pick (fun _ _ _ _ _ _ us hl => match us, hl with | [_, _], _ => rfl) (fun vs H Q E h => ?_) (fun f cdv A outer s H vs Q E hr h => ⟨_, PSs.nox ((pss_one (ps_ret (pe_ix (ix_listK (K := K)) (pv 1) (pe_cl C_law_draw hr (by decide) pass0 rfl (pa_cons (pv 0) (pa_cons (pe_callB (cr_lenK (K := K)) (by rfl) T.b_len (by decide +kernel) (pa_cons (pv 1) pa_nil)) pa_nil))) (fun _ _ => rfl))))), ?_⟩)
  · obtain ⟨a, b, rfl, _⟩ := h
    rfl
  · obtain ⟨x, y, rfl, st, g, c, l, cs, S, xs, rfl, rfl, ls, hT, hl, lg, h0, hz, q⟩ := h
    walk_at "wp"
    refine w_len (.inl (SqL.of hl)) ?_
    walk_at "wp"
    refine ⟨st, g, c, cs, S, xs.length, rfl, rfl, ls, hT, by omega, by omega, fun k H' S' k0 k1 f' l' t' => ?_⟩
    have hl' : H' l = some (.lst xs) := f'.keep _ _ hl (by
      intro z
      rcases List.mem_cons.mp z with e | z
      · exact ne_of ls.s hl (by intro z; cases z) e.symm
      · exact lg (by simpa using z))
    obtain ⟨m, rfl⟩ := Int.eq_ofNat_of_zero_le k0
    have hm : m < xs.length := by omega
    refine w_ixL (SqL.of hl') (atI_nat (List.getElem?_eq_getElem hm)) ?_
    exact q m _ H' S' (List.getElem?_eq_getElem hm) f' l' t'
theorem ok_law_mixed (D : DefAt K mg "_law_mixed" s_law_mixed) (T : Txt K mg) : Cal P w K mg base CX0 1 "_law_mixed" [("_law_state" : Str)] (Sp1 rMixed) := by
  refine cal_of D sc_law_mixed (fun _ _ _ _ _ _ us hl => match us, hl with | [_], _ => rfl) (fun vs H Q E h => ?_) (fun f cdv A outer s H vs Q E hr h => ⟨_, PSs.nox ((pss_cons (ps_par (i := 1) (j := 2) (by rfl) sc_law_mixed.nd rfl rfl (by decide) rfl rfl (pa_cons (pe_op op_add (pe_dget (hu_of hr) (pv 0) pe_str (fun _ _ => rfl)) pe_int) (pa_cons pe_int pa_nil)) (by rfl))
      (pss_cons (ps_dput (hu_of hr) (pv 0) pe_str (pv 1) rfl)
      (pss_cons (ps_for PassesOwn.never rfl (pi_listK (K := K) (pe_lst (pa_cons pe_int (pa_cons pe_int (pa_cons pe_int (pa_cons pe_int pa_nil)))))) (pg_name (i := 3) sc_law_mixed.nd rfl (Or.inl rfl)) (pss_cons (ps_set (i := 4) sc_law_mixed.nd rfl (Or.inl rfl) (pe_op op_add (pe_op op_mul pe_int (pv 1)) (pe_op op_fdiv (pv 3) pe_int)))
      (pss_cons (ps_for PassesOwn.never rfl (pi_listK (K := K) (pe_dget (hu_of hr) (pv 0) pe_str (fun _ _ => rfl))) (pg_name (i := 5) sc_law_mixed.nd rfl (Or.inl rfl)) (pss_one (ps_set (i := 4) sc_law_mixed.nd rfl (Or.inl rfl) (pe_op op_mod (pe_callTy cr_int (by rfl) T.b_int (by decide +kernel) (pa_cons (pe_op op_add (pe_op op_add (pe_op op_mul (pv 4) pe_int) (pv 5)) (pv 1)) pa_nil)) (pv 3)))))
      (pss_one (ps_set (i := 2) sc_law_mixed.nd rfl (Or.inl rfl) (pe_op op_add (pe_op op_mul (pv 2) pe_int) (pe_op op_mod (pe_callTy cr_int (by rfl) T.b_int (by decide +kernel) (pa_cons (pe_op op_pow (pv 4) pe_int) pa_nil)) (pv 3))))))))
      (pss_one (ps_ret (pv 2))))))), ?_⟩)
  · obtain ⟨a, rfl, _⟩ := h
    rfl
  · obtain ⟨x, rfl, st, g, c, cs, S, rfl, l, hT, q⟩ := h
    have t0 := l.tl
    have kn := l.kn
    walk_at "wp"
    refine w_kPut kn 0 rfl nd_st rfl 3 rfl rfl fun H1 kn => ?_
    walk_at "wp"
    refine w_kLst kn rfl fun o H2 kn => ?_
    have tb : 0 ≤ S.t + 1 ∧ S.t + 1 ≤ 1000000000001 := by omega
    refine w_forL (SqL.of (kn.l 0 rfl)) (fun i σ' H' => ∃ found a3 a4 a5, σ' = [some (.ref st), some (.int (S.t + 1)), some (.int found), a3, a4, a5] ∧ Kn H [st, g] [(c, .lst (cs.map V.int))] H' [(o, .lst [.int 2147483629, .int 2147483647, .int 2147483563, .int 2147483587]), (st, oSt g c ⟨S.gs, S.r, S.t + 1⟩), (g, oG S)] [] (fun _ => True))
      ⟨0, none, none, none, rfl, kn⟩ (fun i σ' H' _ hp => ?_) (fun i x σ' H' hx _ hp => ?_) (fun σ' H' hp => ?_)
    · obtain ⟨_, _, _, _, _, kn⟩ := hp
      exact SqL.of (kn.l 0 rfl)
    · obtain ⟨found, a3, a4, a5, rfl, kn⟩ := hp
      obtain ⟨p, rfl, p1, p2⟩ : ∃ p, x = .int p ∧ 2000000000 ≤ p ∧ p ≤ 3000000000 := by
        have hm := List.mem_of_getElem? hx
        simp only [List.mem_cons, List.not_mem_nil, or_false] at hm
        rcases hm with e | e | e | e <;> exact ⟨_, e, by decide, by decide⟩
      walk_at "wp"
      refine w_rI (.inl ⟨by decide, by decide⟩) ?_
      walk_at "wp"
      refine w_rI ⟨by decide, by decide⟩ ?_
      walk_at "wp"
      refine w_forL (SqL.of (kn.r 0 rfl)) (fun i σ' H' => ∃ blend a5, σ' = [some (.ref st), some (.int (S.t + 1)), some (.int found), some (.int p), some (.int blend), a5] ∧ 0 ≤ blend ∧ blend < 1000000000000000000 ∧ Kn H [st, g] [(c, .lst (cs.map V.int))] H' [(o, .lst [.int 2147483629, .int 2147483647, .int 2147483563, .int 2147483587]), (st, oSt g c ⟨S.gs, S.r, S.t + 1⟩), (g, oG S)] [] (fun _ => True))
        ⟨_, _, rfl, by omega, by omega, kn⟩ (fun i σ' H' _ hp => ?_) (fun i x σ' H' hx _ hp => ?_) (fun σ' H' hp => ?_)
      · obtain ⟨_, _, _, _, _, kn⟩ := hp
        exact SqL.of (kn.r 0 rfl)
      · obtain ⟨blend, a5, rfl, b0, b1, kn⟩ := hp
        obtain ⟨z, rfl⟩ : ∃ z, x = V.int z := by
          rw [List.getElem?_map] at hx
          obtain ⟨z, _, e⟩ := Option.map_eq_some_iff.mp hx
          exact ⟨z, e.symm⟩
        walk_at "wp"
        refine w_rI (.inr ⟨by decide, by decide⟩) ?_
        walk_at "wp"
        refine w_rI (by show (0 : Int) < p; omega) ?_
        walk_at "wp"
        refine ⟨_, _, rfl, Int.emod_nonneg _ (by omega), ?_, kn⟩
        have := Int.emod_lt_of_pos (blend * 48271 + z + (S.t + 1)) (show 0 < p by omega)
        omega
      · obtain ⟨blend, a5, rfl, b0, b1, kn⟩ := hp
        walk_at "wp"
        refine w_rI (.inr ⟨by decide, by decide⟩) ?_
        walk_at "wp"
        refine w_rI ⟨by decide, by decide, by omega⟩ ?_
        walk_at "wp"
        refine w_rI (by show (0 : Int) < p; omega) ?_
        walk_at "wp"
        exact ⟨_, _, _, _, rfl, kn⟩
    · obtain ⟨found, a3, a4, a5, rfl, kn⟩ := hp
      walk_at "wp"
      exact q _ _ ⟨S.gs, S.r, S.t + 1⟩ kn.fr ⟨kn.l 1 rfl, kn.l 2 rfl, kn.r 0 rfl, l.gc, tb.1⟩ (Int.le_refl _)
end
/-! ### calls of these -/
section
variable {H0 H : Hp} {M : List Addr} {R L : Obs} {T : Tps} {P : Hp → Prop} {st g c l : Addr} {cs : List Int} {S : SV} {n : Int} {Q : VK} {E : XK} {xs : List V}
theorem w_draw (kn : Kn H0 M R H ((st, oSt g c S) :: (g, oG S) :: L) T P) (hc : H c = some (.lst (cs.map V.int))) (gc : g ≠ c) (t0 : 0 ≤ S.t) (tb : S.t ≤ 1000000000000) (n0 : 0 < n) (n1 : n ≤ 100000)
    (h : ∀ k H' S', 0 ≤ k → k < n → Kn H0 M R H' ((st, oSt g c S') :: (g, oG S') :: L) T P → H' c = some (.lst (cs.map V.int)) → 0 ≤ S'.t → S'.t ≤ S.t + 1 → Q (.int k) H') : rDraw (.ref st) (.int n) H Q E :=
  ⟨st, g, c, cs, S, n, rfl, rfl, ⟨kn.l 0 rfl, kn.l 1 rfl, hc, gc, t0⟩, tb, n0, n1, fun k H' S' k0 k1 f l t => h k H' S' k0 k1 (kn.drawn f l) l.c_ l.tl t⟩
theorem w_pick (kn : Kn H0 M R H ((st, oSt g c S) :: (g, oG S) :: L) T P) (hc : H c = some (.lst (cs.map V.int))) (gc : g ≠ c) (t0 : 0 ≤ S.t) (tb : S.t ≤ 1000000000000) (j : Nat) (hj : L[j]? = some (l, .lst xs)) (h0 : 0 < xs.length) (h1 : xs.length ≤ 100000)
    (h : ∀ v H' S', v ∈ xs → Kn H0 M R H' ((st, oSt g c S') :: (g, oG S') :: L) T P → H' c = some (.lst (cs.map V.int)) → 0 ≤ S'.t → S'.t ≤ S.t + 1 → Q v H') : rPick (.ref st) (.ref l) H Q E :=
  ⟨st, g, c, l, cs, S, xs, rfl, rfl, ⟨kn.l 0 rfl, kn.l 1 rfl, hc, gc, t0⟩, tb, kn.l (j + 2) hj, kn.ne (j + 2) 1 hj rfl (by omega), h0, h1, fun i v H' S' hv f l t => h v H' S' (List.mem_of_getElem? hv) (kn.drawn f l) l.c_ l.tl t⟩
end
end Hue
set_option Elab.async false
set_option linter.all false
set_option maxRecDepth 100000
set_option maxHeartbeats 4000000
set_option autoImplicit false
namespace Hue
open PySem PySem.Spec PyProof.Rows L2
def N_law_number : List Str := [("_law_state" : Str), ("_law_size_here" : Str)]
theorem sc_law_number : FnScope N_law_number [("_law_state" : Str), ("_law_size_here" : Str)] (defScope s_law_number) := ⟨rfl, rfl, rfl, by decide +kernel, rfl, by decide +kernel, by decide +kernel⟩
def N_law_size : List Str := [("_law_state" : Str)]
theorem sc_law_size : FnScope N_law_size [("_law_state" : Str)] (defScope s_law_size) := ⟨rfl, rfl, rfl, by decide +kernel, rfl, by decide +kernel, by decide +kernel⟩
def N_law_two_words : List Str := []
theorem sc_law_two_words : FnScope N_law_two_words [] (defScope s_law_two_words) := ⟨rfl, rfl, rfl, by decide +kernel, rfl, by decide +kernel, by decide +kernel⟩
def N_law_begun : List Str := [("_law_script" : Str), ("_law_great" : Str), ("_law_cell" : Str)]
theorem sc_law_begun : FnScope N_law_begun [("_law_script" : Str)] (defScope s_law_begun) := ⟨rfl, rfl, rfl, by decide +kernel, rfl, by decide +kernel, by decide +kernel⟩
def N_law_inputs : List Str := [("_law_state" : Str), ("_law_some" : Str), ("_law_turn" : Str)]
theorem sc_law_inputs : FnScope N_law_inputs [("_law_state" : Str)] (defScope s_law_inputs) := ⟨rfl, rfl, rfl, by decide +kernel, rfl, by decide +kernel, by decide +kernel⟩
def N_law_votes : List Str := [("_law_state" : Str), ("_law_hues" : Str), ("_law_found" : Str), ("_law_width" : Str), ("_law_least" : Str)]
theorem sc_law_votes : FnScope N_law_votes [("_law_state" : Str)] (defScope s_law_votes) := ⟨rfl, rfl, rfl, by decide +kernel, rfl, by decide +kernel, by decide +kernel⟩
def N_law_plain_step : List Str := [("_law_state" : Str), ("_law_size_here" : Str), ("_law_bank" : Str), ("_law_way" : Str), ("_law_b" : Str), ("_law_c" : Str), ("_law_d" : Str), ("_law_base" : Str), ("_law_length" : Str)]
theorem sc_law_plain_step : FnScope N_law_plain_step [("_law_state" : Str), ("_law_size_here" : Str), ("_law_bank" : Str)] (defScope s_law_plain_step) := ⟨rfl, rfl, rfl, by decide +kernel, rfl, by decide +kernel, by decide +kernel⟩
def rNumber : V → V → Hp → VK → XK → Prop := fun x y H Q _ => ∃ (st g c : Addr) (cs : List Int) (S : SV) (m : Int), x = .ref st ∧ y = .int m ∧ LS H st g c cs S ∧ S.t ≤ 100000000000 ∧ 2 ≤ m ∧ m ≤ 10000 ∧
  ∀ (k : Int) (H' : Hp) (S' : SV), 0 ≤ k → k < m → Fm [st, g] H H' → LS H' st g c cs S' → S'.t ≤ S.t + 2 → Q (.int k) H'
def rSize : V → Hp → VK → XK → Prop := fun x H Q _ => ∃ (st g c : Addr) (cs : List Int) (S : SV), x = .ref st ∧ LS H st g c cs S ∧ S.t ≤ 100000000000 ∧
  ∀ (k : Int) (H' : Hp) (S' : SV), 2 ≤ k → k ≤ 10000 → Fm [st, g] H H' → LS H' st g c cs S' → S'.t ≤ S.t + 1 → Q (.int k) H'
def rTwoWords : Hp → VK → XK → Prop := fun H Q _ => ∀ (l : Addr) (H' : Hp), Same H H' → H l = none → H' l = some (.lst [.str "plus", .str "minus", .str "times", .str "rest", .str "less", .str "same", .str "plus", .str "minus"]) → Q (.ref l) H'
def rBegun (K : PySem.W.Frag) : V → Hp → VK → XK → Prop := fun x H Q _ => ∃ (a : Addr) (ns : List Int), x = .ref a ∧ SqL K H a (ns.map V.int) ∧ ns.length ≤ 63 ∧
  ∀ (st g c : Addr) (cs : List Int) (H' : Hp) (S' : SV), Same H H' → H st = none → H g = none → H c = none → LS H' st g c cs S' → S'.t = 0 → Q (.ref st) H'
def InputsOk (ns : List Int) : Prop := ns.length ≤ 10 ∧ ∀ n ∈ ns, 0 ≤ n ∧ n ≤ 9999
def rInputs : V → Hp → VK → XK → Prop := fun x H Q _ => ∃ (st g c : Addr) (cs : List Int) (S : SV), x = .ref st ∧ LS H st g c cs S ∧ S.t ≤ 10000000000 ∧
  ∀ (l : Addr) (ns : List Int) (H' : Hp) (S' : SV), H l = none → H' l = some (.lst (ns.map V.int)) → InputsOk ns → Fm [st, g] H H' → LS H' st g c cs S' → S'.t ≤ S.t + 100 → Q (.ref l) H'
def rVotes : V → Hp → VK → XK → Prop := fun x H Q _ => ∃ (st g c : Addr) (cs : List Int) (S : SV), x = .ref st ∧ LS H st g c cs S ∧ S.t ≤ 10000000000 ∧
  ∀ (a : Addr) (vs : List Int) (H' : Hp) (S' : SV), H' a = some (.tup (vs.map V.int)) → VotesOk vs → Fm [st, g] H H' → LS H' st g c cs S' → S'.t ≤ S.t + 100 → Q (.ref a) H'
def rPlain : V → V → V → Hp → VK → XK → Prop := fun x y z H Q _ => ∃ (st g c : Addr) (cs : List Int) (S : SV) (m b : Int), x = .ref st ∧ y = .int m ∧ z = .int b ∧ LS H st g c cs S ∧ S.t ≤ 10000000000 ∧ 2 ≤ m ∧ m ≤ 10000 ∧ 0 ≤ b ∧ b ≤ 600 ∧
  ∀ (a : Addr) (i : Ins) (H' : Hp) (S' : SV), H' a = some (.tup i.its) → i.Ok m b → Fm [st, g] H H' → LS H' st g c cs S' → S'.t ≤ S.t + 100 → Q (.ref a) H'
section
variable {P : Program} {w : World} {K : PySem.W.Frag} {mg : Str → Option Value} {base : Heap}
theorem ok_law_number (D : DefAt K mg "_law_number" s_law_number) (T : Txt K mg) (C_law_draw : Cal P w K mg base CX0 2 "_law_draw" [("_law_state" : Str), ("_law_room" : Str)] (Sp2 rDraw))
    (C_law_pick : Cal P w K mg base CX0 3 "_law_pick" [("_law_state" : Str), ("_law_some" : Str)] (Sp2 rPick)) :
    Cal P w K mg base CX0 4 "_law_number" [("_law_state" : Str), ("_law_size_here" : Str)] (Sp2 rNumber) := by
  refine cal_of D sc_law_number (fun _ _ _ _ _ _ us hl => match us, hl with | [_, _], _ => rfl) (fun vs H Q E h => ?_) (fun f cdv A outer s H vs Q E hr h => ⟨_, PSs.nox ((pss_one (ps_ret (pe_op op_mod (pe_cl C_law_pick hr (by decide) pass0 rfl (pa_cons (pv 0) (pa_cons (pe_lst (pa_cons pe_int (pa_cons pe_int (pa_cons pe_int (pa_cons pe_int (pa_cons pe_int (pa_cons pe_int (pa_cons (pe_op op_sub (pv 1) pe_int) (pa_cons pe_int (pa_cons (pe_cl C_law_draw hr (by decide) pass0 rfl (pa_cons (pv 0) (pa_cons (pv 1) pa_nil))) pa_nil)))))))))) pa_nil))) (pv 1))))), ?_⟩)
  · obtain ⟨a, b, rfl, _⟩ := h
    rfl
  · obtain ⟨x, y, rfl, st, g, c, cs, S, m, rfl, rfl, l, hT, h1, h2, q⟩ := h
    have gc := l.gc
    have kn := l.kn
    walk_at "wp"
    refine ⟨st, g, c, cs, S, m, rfl, rfl, l, by omega, by omega, by omega, fun k H1 S1 k0 k1 f1 l1 t1 => ?_⟩
    have kn := kn.drawn f1 l1
    walk_at "wp"
    refine w_kLst kn rfl fun o H2 kn => ?_
    walk_at "wp"
    refine ⟨st, g, c, o, cs, S1, _, rfl, rfl, ⟨kn.l 1 rfl, kn.l 2 rfl, kn.r 0 rfl, gc, l1.tl⟩, by omega, kn.l 0 rfl, kn.ne 0 2 rfl rfl (by decide), by show 0 < 9; decide, by show 9 ≤ 100000; decide, fun i v H3 S3 hv f3 l3 t3 => ?_⟩
    obtain ⟨z, rfl⟩ : ∃ z, v = V.int z := by
      have hm := List.mem_of_getElem? hv
      simp only [List.mem_cons, List.not_mem_nil, or_false] at hm
      rcases hm with e | e | e | e | e | e | e | e | e <;> exact ⟨_, e⟩
    have kn := kn.sw.drawn f3 l3
    walk_at "wp"
    refine w_rI (by show (0 : Int) < m; omega) ?_
    exact q _ _ S3 (Int.emod_nonneg _ (by omega)) (Int.emod_lt_of_pos _ (by omega)) kn.fr l3 (by omega)
theorem ok_law_size (D : DefAt K mg "_law_size" s_law_size) (T : Txt K mg) (C_law_pick : Cal P w K mg base CX0 3 "_law_pick" [("_law_state" : Str), ("_law_some" : Str)] (Sp2 rPick)) :
    Cal P w K mg base CX0 4 "_law_size" [("_law_state" : Str)] (Sp1 rSize) := by
  refine cal_of D sc_law_size (fun _ _ _ _ _ _ us hl => match us, hl with | [_], _ => rfl) (fun vs H Q E h => ?_) (fun f cdv A outer s H vs Q E hr h => ⟨_, PSs.nox ((pss_one (ps_ret (pe_cl C_law_pick hr (by decide) pass0 rfl (pa_cons (pv 0) (pa_cons (pe_lst (pa_cons pe_int (pa_cons pe_int (pa_cons pe_int (pa_cons pe_int (pa_cons pe_int (pa_cons pe_int (pa_cons pe_int (pa_cons pe_int pa_nil))))))))) pa_nil)))))), ?_⟩)
  · obtain ⟨a, rfl, _⟩ := h
    rfl
  · obtain ⟨x, rfl, st, g, c, cs, S, rfl, l, hT, q⟩ := h
    have gc := l.gc
    have kn := l.kn
    walk_at "wp"
    refine w_kLst kn rfl fun o H2 kn => ?_
    walk_at "wp"
    refine ⟨st, g, c, o, cs, S, _, rfl, rfl, ⟨kn.l 1 rfl, kn.l 2 rfl, kn.r 0 rfl, gc, l.tl⟩, by omega, kn.l 0 rfl, kn.ne 0 2 rfl rfl (by decide), by show 0 < 8; decide, by show 8 ≤ 100000; decide, fun i v H3 S3 hv f3 l3 t3 => ?_⟩
    obtain ⟨z, rfl, z1, z2⟩ : ∃ z, v = V.int z ∧ 2 ≤ z ∧ z ≤ 10000 := by
      have hm := List.mem_of_getElem? hv
      simp only [List.mem_cons, List.not_mem_nil, or_false] at hm
      rcases hm with e | e | e | e | e | e | e | e <;> exact ⟨_, e, by decide, by decide⟩
    have kn := kn.sw.drawn f3 l3
    exact q _ _ S3 z1 z2 kn.fr l3 t3
theorem ok_law_two_words (D : DefAt K mg "_law_two_words" s_law_two_words) : Cal P w K mg base CX0 1 "_law_two_words" [] (Sp0 rTwoWords) := by
  refine cal_of D sc_law_two_words (fun _ _ _ _ _ _ us hl => match us, hl with | [], _ => rfl) (fun vs H Q E h => ?_) (fun f cdv A outer s H vs Q E hr h => ⟨_, PSs.nox ((pss_one (ps_ret (pe_lst (pa_cons pe_str (pa_cons pe_str (pa_cons pe_str (pa_cons pe_str (pa_cons pe_str (pa_cons pe_str (pa_cons pe_str (pa_cons pe_str pa_nil)))))))))))), ?_⟩)
  · obtain ⟨rfl, _⟩ := h
    rfl
  · obtain ⟨rfl, q⟩ := h
    have kn := Kn.start0 (H0 := H)
    walk_at "wp"
    refine ⟨by show 8 ≤ sizeLine; decide, fun p hp => ?_⟩
    exact q p _ (fun b o e => by rw [upd_ne (ne_of_none e hp)]; exact e) hp upd_same
theorem ok_law_begun (D : DefAt K mg "_law_begun" s_law_begun) (T : Txt K mg) : Cal P w K mg base CX0 1 "_law_begun" [("_law_script" : Str)] (Sp1 (rBegun K)) := by
  refine cal_of D sc_law_begun (fun _ _ _ _ _ _ us hl => match us, hl with | [_], _ => rfl) (fun vs H Q E h => ?_) (fun f cdv A outer s H vs Q E hr h => ⟨_, PSs.nox ((pss_cons (ps_setLc (i := 1) (own := [("_law_cell", 2)]) rfl sc_law_begun.nd rfl rfl (sw_true rfl rfl rfl (by decide +kernel)) (pi_listK (K := K) (pv 0)) (blkOk_by (own := [("_law_cell", 2)]) (N := N_law_begun) (sc := defScope s_law_begun) (by decide +kernel)) (fun _ _ _ _ _ => (pg_name (i := 2) sc_law_begun.nd rfl (by first | exact Or.inl rfl | exact Or.inr rfl))) (fun _ _ _ _ _ => by exact (pts_one (pt_cmpR op_ge (pe_callB cr_abs (by rfl) T.b_abs (by decide +kernel) (pa_cons (pv 2) pa_nil)) (pe_op op_pow pe_int pe_int) (nomark _)))) (fun _ _ _ _ _ => by exact (pe_op op_sub (pe_callB cr_abs (by rfl) T.b_abs (by decide +kernel) (pa_cons (pv 2) pa_nil)) (pe_op op_pow pe_int pe_int))))
      (pss_one (ps_ret (pe_disp (pps_cons pe_str (pv 1) (pps_cons pe_str (pe_lc (own := [("_law_cell", 2)]) rfl sc_law_begun.nd (pi_listK (K := K) (pv 0)) (blkOk_by (own := [("_law_cell", 2)]) (N := N_law_begun) (sc := defScope s_law_begun) (by decide +kernel)) (fun _ _ _ _ _ => (pg_name (i := 2) sc_law_begun.nd rfl (by first | exact Or.inl rfl | exact Or.inr rfl))) (fun _ _ _ _ _ => pts_nil) (fun _ _ _ _ _ => by exact (pe_callB cr_abs (by rfl) T.b_abs (by decide +kernel) (pa_cons (pv 2) pa_nil)))) (pps_cons pe_str pe_int (pps_cons pe_str pe_int pps_nil)))) (by rfl) (by rfl) (fun z => by cases z) (by decide)))))), ?_⟩)
  · obtain ⟨a, rfl, _⟩ := h
    rfl
  · obtain ⟨x, rfl, a, ns, rfl, hS, hn, q⟩ := h
    have kn := Kn.start0 (H0 := H)
    walk_at "wp"
    refine w_lcL kn hS (fun D i H' => ∃ gs : List Int, gs.length ≤ i ∧ Kn H [] [] H' [(D, .lst (gs.map V.int))] [] (fun _ => True)) (fun D H' kn => ⟨[], Nat.le_refl _, kn⟩) (fun D i H' _ hp => ?_) (fun D i x H' hx hi hp => ?_) (fun D H1 hp => ?_)
    · obtain ⟨_, _, kn⟩ := hp
      exact kn.fr.toSame.seq hS
    · obtain ⟨gs, hg, kn⟩ := hp
      obtain ⟨z, _, rfl⟩ := int_map hx
      rw [List.length_map] at hi
      walk_at "wp"
      refine w_rI ⟨by decide, by decide, by decide⟩ ?_
      walk_at "wp"
      refine kIf_d (fun _ => ?_) fun _ => ?_
      · walk_at "wp"
        refine w_rI ⟨by decide, by decide, by decide⟩ ?_
        walk_at "wp"
        refine w_kAcc kn 0 rfl (by rw [List.length_map]; omega) fun H2 kn => ?_
        rw [map_snoc] at kn
        exact ⟨_, by rw [List.length_append]; exact Nat.succ_le_succ hg, kn⟩
      · exact ⟨gs, Nat.le_succ_of_le hg, kn⟩
    · obtain ⟨gs, _, kn⟩ := hp
      walk_at "wp"
      refine w_disp kn fun st H2 kn => ?_
      walk_at "wp"
      have hS2 : SqL K H2 a (ns.map V.int) := kn.fr.toSame.seq hS
      refine w_lcL kn hS2 (fun c i H' => ∃ cs : List Int, cs.length ≤ i ∧ Kn H [] [] H' [(c, .lst (cs.map V.int)), (st, .dK []), (D, .lst (gs.map V.int))] [] (fun _ => True)) (fun c H' kn => ⟨[], Nat.le_refl _, kn⟩) (fun c i H' _ hp => ?_) (fun c i x H' hx hi hp => ?_) (fun c H3 hp => ?_)
      · obtain ⟨_, _, kn⟩ := hp
        exact kn.fr.toSame.seq hS
      · obtain ⟨cs, hc, kn⟩ := hp
        obtain ⟨z, _, rfl⟩ := int_map hx
        rw [List.length_map] at hi
        walk_at "wp"
        refine w_kAcc kn 0 rfl (by rw [List.length_map]; omega) fun H2 kn => ?_
        rw [map_snoc] at kn
        exact ⟨_, by rw [List.length_append]; exact Nat.succ_le_succ hc, kn⟩
      · obtain ⟨cs, _, kn⟩ := hp
        walk_at "wp"
        refine w_kDisp kn 1 rfl stK [.ref D, .ref c, .int 0, .int 0] nd_st rfl rfl rfl fun H4 kn => ?_
        have ne : D ≠ c := kn.ne 2 0 rfl rfl (by decide)
        exact q st D c cs H4 ⟨gs, 0, 0⟩ kn.fr.toSame (kn.ow 1 rfl) (kn.ow 2 rfl) (kn.ow 0 rfl) ⟨kn.l 1 rfl, kn.l 2 rfl, kn.l 0 rfl, ne, Int.le_refl 0⟩ rfl
theorem ok_law_inputs (D : DefAt K mg "_law_inputs" s_law_inputs) (T : Txt K mg) (C_law_pick : Cal P w K mg base CX0 3 "_law_pick" [("_law_state" : Str), ("_law_some" : Str)] (Sp2 rPick)) :
    Cal P w K mg base CX0 4 "_law_inputs" [("_law_state" : Str)] (Sp1 rInputs) := by
  refine cal_of D sc_law_inputs (fun _ _ _ _ _ _ us hl => match us, hl with | [_], _ => rfl) (fun vs H Q E h => ?_) (fun f cdv A outer s H vs Q E hr h => ⟨_, PSs.nox ((pss_cons (ps_set (i := 1) sc_law_inputs.nd rfl (Or.inr rfl) (pe_lst (pa_cons pe_int (pa_cons pe_int (pa_cons pe_int (pa_cons pe_int (pa_cons pe_int (pa_cons pe_int (pa_cons pe_int (pa_cons pe_int (pa_cons pe_int (pa_cons pe_int pa_nil))))))))))))
      (pss_one (ps_ret (pe_lc (own := [("_law_turn", 2)]) rfl sc_law_inputs.nd (pi_range1 rfl T.b_range (pa_cons (pe_cl C_law_pick hr (by decide) pass0 rfl (pa_cons (pv 0) (pa_cons (pe_lst (pa_cons pe_int (pa_cons pe_int (pa_cons pe_int (pa_cons pe_int (pa_cons pe_int pa_nil)))))) pa_nil))) pa_nil)) (blkOk_by (own := [("_law_turn", 2)]) (N := N_law_inputs) (sc := defScope s_law_inputs) (by decide +kernel)) (fun _ _ _ _ _ => (pg_name (i := 2) sc_law_inputs.nd rfl (by first | exact Or.inl rfl | exact Or.inr rfl))) (fun _ _ _ _ _ => pts_nil) (fun _ _ _ _ _ => by exact (pe_cl C_law_pick hr (by decide) pass0 rfl (pa_cons (pv 0) (pa_cons (pv 1) pa_nil))))))))), ?_⟩)
  · obtain ⟨a, rfl, _⟩ := h
    rfl
  · obtain ⟨x, rfl, st, g, c, cs, S, rfl, l, hT, q⟩ := h
    have gc := l.gc
    have kn := l.kn
    walk_at "wp"
    refine w_kLst kn rfl fun o H1 kn => ?_
    have kn := kn.sw
    walk_at "wp"
    refine w_kLst kn rfl fun o2 H2 kn => ?_
    walk_at "wp"
    refine ⟨st, g, c, o2, cs, S, _, rfl, rfl, ⟨kn.l 1 rfl, kn.l 2 rfl, kn.r 0 rfl, gc, l.tl⟩, by omega, kn.l 0 rfl, kn.ne 0 2 rfl rfl (by decide), by show 0 < 5; decide, by show 5 ≤ 100000; decide, fun i v H3 S3 hv f3 l3 t3 => ?_⟩
    obtain ⟨z, rfl, z1, z2⟩ : ∃ z, v = V.int z ∧ 0 ≤ z ∧ z ≤ 6 := by
      have hm := List.mem_of_getElem? hv
      simp only [List.mem_cons, List.not_mem_nil, or_false] at hm
      rcases hm with e | e | e | e | e <;> exact ⟨_, e, by decide, by decide⟩
    have kn := (kn.sw.drawn f3 l3).drop3
    have tb := l3.tl
    walk_at "wp"
    refine w_lcR ⟨z1, by omega⟩ kn (fun D i H' => ∃ (S' : SV) (ns : List Int), ns.length = i ∧ InputsOk ns ∧ 0 ≤ S'.t ∧ S'.t ≤ S.t + 1 + i ∧ Kn H [st, g] [(c, .lst (cs.map V.int))] H' [(st, oSt g c S'), (g, oG S'), (D, .lst (ns.map V.int)), (o, HO.lst [V.int 0, V.int 1, V.int 2, V.int 3, V.int 5, V.int 9, V.int 9999, V.int 100, V.int 17, V.int 6])] [] (fun _ => True))
      (fun D H' kn => ⟨S3, [], rfl, ⟨by decide, fun n hn => by cases hn⟩, tb, by omega, kn.sw⟩) (fun D i H' hi hp => ?_) (fun D H' hp => ?_)
    · obtain ⟨S', ns, hl, hi1, t1, t2, kn⟩ := hp
      walk_at "wp"
      refine ⟨st, g, c, o, cs, S', _, rfl, rfl, ⟨kn.l 0 rfl, kn.l 1 rfl, kn.r 0 rfl, gc, t1⟩, by omega, kn.l 3 rfl, kn.ne 3 1 rfl rfl (by decide), by show 0 < 10; decide, by show 10 ≤ 100000; decide, fun i v H5 S5 hv f5 l5 t5 => ?_⟩
      obtain ⟨u, rfl, u1, u2⟩ : ∃ z, v = V.int z ∧ 0 ≤ z ∧ z ≤ 9999 := by
        have hm := List.mem_of_getElem? hv
        simp only [List.mem_cons, List.not_mem_nil, or_false] at hm
        rcases hm with e | e | e | e | e | e | e | e | e | e <;> exact ⟨_, e, by decide, by decide⟩
      have kn := kn.drawn f5 l5
      walk_at "wp"
      refine w_kAcc kn 2 rfl (by rw [List.length_map]; omega) fun H6 kn => ?_
      rw [map_snoc] at kn
      refine ⟨S5, ns ++ [u], by rw [List.length_append, hl] <;> rfl, ⟨?_, fun n hn => ?_⟩, l5.tl, by omega, kn⟩
      · rw [List.length_append, List.length_singleton]
        omega
      · rcases List.mem_append.mp hn with hn | hn
        · exact hi1.2 n hn
        · have e : n = u := by simpa using hn
          rw [e]
          exact ⟨u1, u2⟩
    · obtain ⟨S', ns, hl, hi1, t1, t2, kn⟩ := hp
      exact q D ns H' S' kn.ow3 (kn.l 2 rfl) hi1 kn.fr ⟨kn.l 0 rfl, kn.l 1 rfl, kn.r 0 rfl, gc, t1⟩ (by omega)
theorem ok_law_votes (D : DefAt K mg "_law_votes" s_law_votes) (T : Txt K mg) (C_law_draw : Cal P w K mg base CX0 2 "_law_draw" [("_law_state" : Str), ("_law_room" : Str)] (Sp2 rDraw))
    (C_law_pick : Cal P w K mg base CX0 3 "_law_pick" [("_law_state" : Str), ("_law_some" : Str)] (Sp2 rPick)) :
    Cal P w K mg base CX0 4 "_law_votes" [("_law_state" : Str)] (Sp1 rVotes) := by
  refine cal_of D sc_law_votes (fun _ _ _ _ _ _ us hl => match us, hl with | [_], _ => rfl) (fun vs H Q E h => ?_) (fun f cdv A outer s H vs Q E hr h => ⟨_, PSs.nox ((pss_cons (ps_par (i := 1) (j := 2) (by rfl) sc_law_votes.nd rfl rfl (by decide) rfl rfl (pa_cons (pe_cl C_law_pick hr (by decide) pass0 rfl (pa_cons (pv 0) (pa_cons (pe_lst (pa_cons pe_int (pa_cons pe_int (pa_cons pe_int (pa_cons pe_int (pa_cons pe_int (pa_cons pe_int (pa_cons pe_int pa_nil)))))))) pa_nil))) (pa_cons (pe_lst pa_nil) pa_nil)) (by rfl))
      (pss_cons (ps_for PassesOwn.never rfl (pi_range2 rfl T.b_range (pa_cons pe_int (pa_cons (pe_op op_add (pv 1) pe_int) pa_nil))) (pg_name (i := 3) sc_law_votes.nd rfl (Or.inl rfl)) (pss_cons (ps_set (i := 4) sc_law_votes.nd rfl (Or.inl rfl) (pe_op op_add (pe_op op_fdiv (pv 3) pe_int) pe_int))
      (pss_one (ps_expr (pe_bmK (K := K) PySem.F.plainAttrs_list PySem.F.slot_list_append PySem.F.type_list_append mt_append (pv 2) (pa_cons (pe_cl C_law_pick hr (by decide) pass0 rfl (pa_cons (pv 0) (pa_cons (pe_lst (pa_cons (pv 4) (pa_cons (pv 3) (pa_cons (pe_op op_add (pv 4) (pe_cl C_law_draw hr (by decide) pass0 rfl (pa_cons (pv 0) (pa_cons (pe_op op_sub (pv 3) (pe_op op_fdiv (pv 3) pe_int)) pa_nil)))) pa_nil)))) pa_nil))) pa_nil))))))
      (pss_one (ps_ret (pe_callTy (cr_tupK (K := K)) (by rfl) T.b_tuple (by decide +kernel) (pa_cons (pv 2) pa_nil))))))), ?_⟩)
  · obtain ⟨a, rfl, _⟩ := h
    rfl
  · obtain ⟨x, rfl, st, g, c, cs, S, rfl, l, hT, q⟩ := h
    have gc := l.gc
    have kn := l.kn
    walk_at "wp"
    refine w_kLst kn rfl fun o H1 kn => ?_
    walk_at "wp"
    refine ⟨st, g, c, o, cs, S, _, rfl, rfl, ⟨kn.l 1 rfl, kn.l 2 rfl, kn.r 0 rfl, gc, l.tl⟩, by omega, kn.l 0 rfl, kn.ne 0 2 rfl rfl (by decide), by show 0 < 7; decide, by show 7 ≤ 100000; decide, fun i v H3 S3 hv f3 l3 t3 => ?_⟩
    obtain ⟨hues, rfl, z1, z2⟩ : ∃ z, v = V.int z ∧ 1 ≤ z ∧ z ≤ 5 := by
      have hm := List.mem_of_getElem? hv
      simp only [List.mem_cons, List.not_mem_nil, or_false] at hm
      rcases hm with e | e | e | e | e | e | e <;> exact ⟨_, e, by decide, by decide⟩
    have kn := (kn.sw.drawn f3 l3).drop3
    have tb := l3.tl
    walk_at "wp"
    refine w_kLst kn rfl fun fo H4 kn => ?_
    have kn := kn.sw
    walk_at "wp"
    refine w_forR2 ⟨by decide, by decide, by omega, by omega⟩ (fun i σ' H' => ∃ (S' : SV) (ns : List Int) (a3 a4 : Option V), σ' = [some (.ref st), some (.int hues), some (.ref fo), a3, a4] ∧ ns.length = i ∧ (∀ (j : Nat) (v : Int), ns[j]? = some v → (j : Int) + 1 < 2 * v ∧ v ≤ (j : Int) + 1) ∧ 0 ≤ S'.t ∧ S'.t ≤ S.t + 1 + 2 * i ∧ Kn H [st, g] [(c, .lst (cs.map V.int))] H' [(st, oSt g c S'), (g, oG S'), (fo, .lst (ns.map V.int))] [] (fun _ => True))
      ⟨S3, [], none, none, rfl, rfl, (fun j v e => by cases e), tb, by omega, kn⟩ (fun i σ' H' hi hp => ?_) (fun σ' H' hp => ?_)
    · obtain ⟨S', ns, a3, a4, rfl, hl, hv, t1, t2, kn⟩ := hp
      walk_at "wp"
      refine w_rI ⟨by decide, by decide⟩ ?_
      walk_at "wp"
      refine w_rI ⟨by decide, by decide⟩ ?_
      walk_at "wp"
      refine ⟨st, g, c, cs, S', _, rfl, rfl, ⟨kn.l 0 rfl, kn.l 1 rfl, kn.r 0 rfl, gc, t1⟩, by omega, by omega, by omega, fun k H5 S5 k0 k1 f5 l5 t5 => ?_⟩
      have kn := kn.drawn f5 l5
      walk_at "wp"
      refine w_kLst kn rfl fun o H6 kn => ?_
      walk_at "wp"
      refine ⟨st, g, c, o, cs, S5, _, rfl, rfl, ⟨kn.l 1 rfl, kn.l 2 rfl, kn.r 0 rfl, gc, l5.tl⟩, by omega, kn.l 0 rfl, kn.ne 0 2 rfl rfl (by decide), by show 0 < 3; decide, by show 3 ≤ 100000; decide, fun i v H7 S7 hv7 f7 l7 t7 => ?_⟩
      obtain ⟨u, rfl, u1, u2⟩ : ∃ z, v = V.int z ∧ (ns.length : Int) + 1 < 2 * z ∧ z ≤ (ns.length : Int) + 1 := by
        have hm := List.mem_of_getElem? hv7
        simp only [List.mem_cons, List.not_mem_nil, or_false] at hm
        rcases hm with e | e | e <;> exact ⟨_, e, by omega, by omega⟩
      have kn := (kn.sw.drawn f7 l7).drop3
      walk_at "wp"
      refine w_append kn 2 rfl (by rw [List.length_map]; omega) fun H8 kn => ?_
      rw [map_snoc] at kn
      walk_at "wp"
      refine ⟨S7, ns ++ [u], _, _, rfl, by rw [List.length_append, hl] <;> rfl, fun j v e => ?_, l7.tl, by omega, kn⟩
      by_cases hj : j < ns.length
      · rw [List.getElem?_append_left hj] at e
        exact hv j v e
      · rw [List.getElem?_append_right (by omega)] at e
        have hj2 : j - ns.length = 0 := by
          have := (List.getElem?_eq_some_iff.mp e).1
          simp at this
          omega
        rw [hj2] at e
        have e2 : u = v := Option.some.inj e
        have e3 : j = ns.length := by omega
        rw [e3, ← e2]
        exact ⟨u1, u2⟩
    · obtain ⟨S', ns, a3, a4, rfl, hl, hv, t1, t2, kn⟩ := hp
      walk_at "wp"
      refine w_tupOfL kn (SqL.of (kn.l 2 rfl)) fun a H5 kn => ?_
      exact q a ns H5 S' (kn.t 0 rfl) ⟨by omega, by omega, hv⟩ kn.fr ⟨kn.l 0 rfl, kn.l 1 rfl, kn.r 0 rfl, gc, t1⟩ (by omega)
theorem w_number {H0 H : Hp} {M : List Addr} {R L : Obs} {T : Tps} {P : Hp → Prop} {st g c : Addr} {cs : List Int} {S : SV} {n : Int} {Q : VK} {E : XK} (kn : Kn H0 M R H ((st, oSt g c S) :: (g, oG S) :: L) T P) (hc : H c = some (.lst (cs.map V.int))) (gc : g ≠ c) (t0 : 0 ≤ S.t) (tb : S.t ≤ 100000000000) (n0 : 2 ≤ n) (n1 : n ≤ 10000)
    (h : ∀ k H' S', 0 ≤ k → k < n → Kn H0 M R H' ((st, oSt g c S') :: (g, oG S') :: L) T P → H' c = some (.lst (cs.map V.int)) → 0 ≤ S'.t → S'.t ≤ S.t + 2 → Q (.int k) H') : rNumber (.ref st) (.int n) H Q E :=
  ⟨st, g, c, cs, S, n, rfl, rfl, ⟨kn.l 0 rfl, kn.l 1 rfl, hc, gc, t0⟩, tb, n0, n1, fun k H' S' k0 k1 f l t => h k H' S' k0 k1 (kn.drawn f l) l.c_ l.tl t⟩
theorem w_size {H0 H : Hp} {M : List Addr} {R L : Obs} {T : Tps} {P : Hp → Prop} {st g c : Addr} {cs : List Int} {S : SV} {Q : VK} {E : XK} (kn : Kn H0 M R H ((st, oSt g c S) :: (g, oG S) :: L) T P) (hc : H c = some (.lst (cs.map V.int))) (gc : g ≠ c) (t0 : 0 ≤ S.t) (tb : S.t ≤ 100000000000)
    (h : ∀ k H' S', 2 ≤ k → k ≤ 10000 → Kn H0 M R H' ((st, oSt g c S') :: (g, oG S') :: L) T P → H' c = some (.lst (cs.map V.int)) → 0 ≤ S'.t → S'.t ≤ S.t + 1 → Q (.int k) H') : rSize (.ref st) H Q E :=
  ⟨st, g, c, cs, S, rfl, ⟨kn.l 0 rfl, kn.l 1 rfl, hc, gc, t0⟩, tb, fun k H' S' k0 k1 f l t => h k H' S' k0 k1 (kn.drawn f l) l.c_ l.tl t⟩
theorem ok_law_plain_step (D : DefAt K mg "_law_plain_step" s_law_plain_step) (T : Txt K mg) (C_law_draw : Cal P w K mg base CX0 2 "_law_draw" [("_law_state" : Str), ("_law_room" : Str)] (Sp2 rDraw))
    (C_law_pick : Cal P w K mg base CX0 3 "_law_pick" [("_law_state" : Str), ("_law_some" : Str)] (Sp2 rPick)) (C_law_number : Cal P w K mg base CX0 4 "_law_number" [("_law_state" : Str), ("_law_size_here" : Str)] (Sp2 rNumber))
    (C_law_two_words : Cal P w K mg base CX0 1 "_law_two_words" [] (Sp0 rTwoWords)) :
    Cal P w K mg base CX0 5 "_law_plain_step" [("_law_state" : Str), ("_law_size_here" : Str), ("_law_bank" : Str)] (Sp3 rPlain) := by
  refine cal_of D sc_law_plain_step (fun _ _ _ _ _ _ us hl => match us, hl with | [_, _, _], _ => rfl) (fun vs H Q E h => ?_) (fun f cdv A outer s H vs Q E hr h => ⟨_, PSs.nox ((pss_cons (ps_set (i := 3) sc_law_plain_step.nd rfl (Or.inl rfl) (pe_cl C_law_draw hr (by decide) pass0 rfl (pa_cons (pv 0) (pa_cons pe_int pa_nil))))
      (pss_cons (ps_par3 (i := 4) (j := 5) (l := 6) (by rfl) sc_law_plain_step.nd rfl rfl rfl (by decide) (by decide) (by decide) rfl rfl rfl (pa_cons (pe_cl C_law_draw hr (by decide) pass0 rfl (pa_cons (pv 0) (pa_cons pe_int pa_nil))) (pa_cons (pe_cl C_law_draw hr (by decide) pass0 rfl (pa_cons (pv 0) (pa_cons pe_int pa_nil))) (pa_cons (pe_cl C_law_draw hr (by decide) pass0 rfl (pa_cons (pv 0) (pa_cons pe_int pa_nil))) pa_nil))) (by rfl))
      (C8.pss_cut (ps_if (PW.pt (pw_or (pt_cmpR op_eq (pv 3) pe_int (nomark _)) (pw_or1 (PW.pt (pw_and (pt_cmpR op_eq (pv 2) pe_int (nomark _)) (pw_and1 (pt_cmpR op_gt (pv 3) pe_int (nomark _)))))))) (pss_one (ps_ret (pe_tup (pa_cons pe_str (pa_cons (pv 4) (pa_cons (pe_cl C_law_number hr (by decide) pass0 rfl (pa_cons (pv 0) (pa_cons (pv 1) pa_nil))) pa_nil)))))) pss_nil)
      (pss_cons (ps_if (pt_cmpR op_gt (pv 3) pe_int (nomark _)) (pss_cons (ps_set (i := 7) sc_law_plain_step.nd rfl (Or.inl rfl) (pe_cl C_law_draw hr (by decide) pass0 rfl (pa_cons (pv 0) (pa_cons (pv 2) pa_nil))))
      (pss_cons (ps_set (i := 8) sc_law_plain_step.nd rfl (Or.inl rfl) (pe_op op_add pe_int (pe_cl C_law_draw hr (by decide) pass0 rfl (pa_cons (pv 0) (pa_cons (pe_op op_sub (pv 2) (pv 7)) pa_nil)))))
      (pss_one (ps_ret (pe_tup (pa_cons (pe_cl C_law_pick hr (by decide) pass0 rfl (pa_cons (pv 0) (pa_cons (pe_lst (pa_cons pe_str (pa_cons pe_str pa_nil))) pa_nil))) (pa_cons (pv 4) (pa_cons (pv 5) (pa_cons (pv 7) (pa_cons (pv 8) pa_nil)))))))))) pss_nil)
      (pss_one (ps_ret (pe_tup (pa_cons (pe_cl C_law_pick hr (by decide) pass0 rfl (pa_cons (pv 0) (pa_cons (pe_cl0 C_law_two_words hr (by decide) pass0 rfl) pa_nil))) (pa_cons (pv 4) (pa_cons (pv 5) (pa_cons (pv 6) pa_nil)))))))))))), ?_⟩)
  · obtain ⟨a, b, c, rfl, _⟩ := h
    rfl
  · obtain ⟨x, y, z, rfl, st, g, c, cs, S, m, bk, rfl, rfl, rfl, l, hT, m1, m2, b1, b2, q⟩ := h
    have gc := l.gc
    have kn := l.kn
    have hc := l.c_
    walk_at "wp"
    refine w_draw kn hc gc l.tl (by omega) (by decide) (by decide) fun way H1 S1 w0 w1 kn hc t1 t1' => ?_
    walk_at "wp"
    refine w_draw kn hc gc t1 (by omega) (by decide) (by decide) fun rb H2 S2 rb0 rb1 kn hc t2 t2' => ?_
    walk_at "wp"
    refine w_draw kn hc gc t2 (by omega) (by decide) (by decide) fun rc H3 S3 rc0 rc1 kn hc t3 t3' => ?_
    walk_at "wp"
    refine w_draw kn hc gc t3 (by omega) (by decide) (by decide) fun rd H4 S4 rd0 rd1 kn hc t4 t4' => ?_
    have done : ∀ (a : Addr) (i : Ins) (H' : Hp) (S' : SV) (L : Obs) (T : Tps), Kn H [st, g] [(c, .lst (cs.map V.int))] H' ((st, oSt g c S') :: (g, oG S') :: L) ((a, i.its) :: T) (fun _ => True) → i.Ok m bk → 0 ≤ S'.t → S'.t ≤ S.t + 100 → Q (.ref a) H' :=
      fun a i H' S' L T kn hi t t' => q a i H' S' (kn.t 0 rfl) hi kn.fr ⟨kn.l 0 rfl, kn.l 1 rfl, kn.r 0 rfl, gc, t⟩ t'
    have rb' : Reg rb := ⟨rb0, by omega⟩
    have rc' : Reg rc := ⟨rc0, by omega⟩
    have rd' : Reg rd := ⟨rd0, by omega⟩
    walk_at "wp"
    refine ⟨fun σ' H' => σ' = [some (.ref st), some (.int m), some (.int bk), some (.int way), some (.int rb), some (.int rc), some (.int rd), none, none] ∧ H' = H4 ∧ (3 < way → bk ≠ 0), ?_, fun σ' H' hm => ?_⟩
    · walk_at "wp"
      refine kIf_d (fun e => ?_) fun e => ?_
      · walk_at "wp"
        refine w_number kn hc gc t4 (by omega) m1 m2 fun k H5 S5 k0 k1 kn hc t5 t5' => ?_
        walk_at "wp"
        refine w_kTup kn rfl fun a H6 kn => ?_
        exact done a (.set rb k) H6 S5 [] [] kn ⟨rb', k0, k1⟩ t5 (by omega)
      · walk_at "wp"
        refine kIf_d (fun e2 => ?_) fun e2 => ?_
        · walk_at "wp"
          refine kIf_d (fun e3 => ?_) fun e3 => ?_
          · walk_at "wp"
            refine w_number kn hc gc t4 (by omega) m1 m2 fun k H5 S5 k0 k1 kn hc t5 t5' => ?_
            walk_at "wp"
            refine w_kTup kn rfl fun a H6 kn => ?_
            exact done a (.set rb k) H6 S5 [] [] kn ⟨rb', k0, k1⟩ t5 (by omega)
          · walk_at "wp"
            exact ⟨rfl, rfl, fun z => absurd z e3⟩
        · walk_at "wp"
          exact ⟨rfl, rfl, fun _ => e2⟩
    · obtain ⟨rfl, rfl, hb⟩ := hm
      walk_at "wp"
      refine kIf_d (fun e => ?_) fun e => ?_
      · have hb := hb e
        walk_at "wp"
        refine w_draw kn hc gc t4 (by omega) (by omega) (by omega) fun ba H5 S5 ba0 ba1 kn hc t5 t5' => ?_
        walk_at "wp"
        refine w_draw kn hc gc t5 (by omega) (by omega) (by omega) fun le H6 S6 le0 le1 kn hc t6 t6' => ?_
        walk_at "wp"
        refine w_kLst kn rfl fun o H7 kn => ?_
        walk_at "wp"
        have hc : H7 c = _ := kn.r 0 rfl
        refine w_pick kn.sw hc gc t6 (by omega) 0 rfl (by decide) (by decide) fun v H8 S8 hv kn hc t8 t8' => ?_
        walk_at "wp"
        refine w_kTup kn rfl fun a H9 kn => ?_
        simp only [List.mem_cons, List.not_mem_nil, or_false] at hv
        rcases hv with rfl | rfl
        · exact done a (.get rb rc ba (1 + le)) H9 S8 _ [] kn ⟨rb', rc', ba0, by omega, by omega⟩ t8 (by omega)
        · exact done a (.put rb rc ba (1 + le)) H9 S8 _ [] kn ⟨rb', rc', ba0, by omega, by omega⟩ t8 (by omega)
      · walk_at "wp"
        refine fun o H5 sm ho hl => ?_
        have kn := (kn.add (kn.same sm) rfl ho hl rfl).sw
        walk_at "wp"
        have hc : H5 c = _ := kn.r 0 rfl
        refine w_pick kn hc gc t4 (by omega) 0 rfl (by decide) (by decide) fun v H6 S6 hv kn hc t6 t6' => ?_
        walk_at "wp"
        refine w_kTup kn rfl fun a H7 kn => ?_
        obtain ⟨wd, rfl, hw⟩ : ∃ wd, v = V.str wd ∧ wd ∈ twos := by
          simp only [List.mem_cons, List.not_mem_nil, or_false] at hv
          unfold twos
          rcases hv with e | e | e | e | e | e | e | e <;> exact ⟨_, e, by simp⟩
        exact done a (.two wd rb rc rd) H7 S6 _ [] kn ⟨hw, rb', rc', rd'⟩ t6 (by omega)
end
end Hue
set_option Elab.async false
set_option linter.all false
set_option maxRecDepth 100000
set_option maxHeartbeats 4000000
set_option autoImplicit false
namespace Hue
open PySem PySem.Spec PyProof.Rows L2
def N_law_laid : List Str := [("_law_state" : Str), ("_law_hues" : Str), ("_law_steps" : Str), ("_law_left" : Str), ("_law_found" : Str), ("_law_one" : Str), ("_law_some" : Str), ("_law_hue" : Str), ("_law_step" : Str)]
theorem sc_law_laid : FnScope N_law_laid [("_law_state" : Str), ("_law_hues" : Str), ("_law_steps" : Str)] (defScope s_law_laid) := ⟨rfl, rfl, rfl, by decide +kernel, rfl, by decide +kernel, by decide +kernel⟩
def N_law_code_blocks : List Str := [("_law_state" : Str), ("_law_blocks" : Str), ("_law_found" : Str), ("_law_at" : Str), ("_law_kind" : Str), ("_law_goal" : Str)]
theorem sc_law_code_blocks : FnScope N_law_code_blocks [("_law_state" : Str), ("_law_blocks" : Str)] (defScope s_law_code_blocks) := ⟨rfl, rfl, rfl, by decide +kernel, rfl, by decide +kernel, by decide +kernel⟩
def lcScope : Expr → Scope
  | .ListComp _ _ sc _ => sc
  | _ => ⟨.function, [], false, false, []⟩
def lcFirst (st : Stmt) : Scope := match defBody st with
  | .Assign _ v _ :: _ => lcScope v
  | _ => ⟨.function, [], false, false, []⟩
theorem LS.kn2 {H : Hp} {st g c l : Addr} {cs : List Int} {S : SV} {xs : List V} {P : Hp → Prop} (ls : LS H st g c cs S) (hl : H l = some (.lst xs)) (lg : l ≠ g) (m : Mono P) (p : P H) :
    Kn H [st, g] [(c, .lst (cs.map V.int)), (l, .lst xs)] H [(st, oSt g c S), (g, oG S)] [] P := by
  have k := ls.kn
  refine ⟨k.fr, fun q hq => ?_, k.nd, k.nt, k.ats, k.own, k.ta, p, m⟩
  rcases List.mem_cons.mp hq with e | hq
  · exact k.ro q (by rw [e]; exact List.mem_cons_self)
  · have e : q = (l, .lst xs) := by simpa using hq
    subst e
    refine ⟨hl, fun z => ?_⟩
    rcases List.mem_cons.mp z with e | z
    · exact ne_of ls.s hl (by intro z; cases z) e.symm
    · exact lg (by simpa using z)
def rLaid : V → V → V → Hp → VK → XK → Prop := fun x y z H Q _ => ∃ (st g c l : Addr) (cs : List Int) (S : SV) (as : List Addr) (is : List Ins), x = .ref st ∧ y = .int 1 ∧ z = .ref l ∧ LS H st g c cs S ∧ S.t ≤ 1000000000 ∧
  H l = some (.lst (as.map V.ref)) ∧ l ≠ g ∧ At H as (is.map Ins.its) ∧ is.length ≤ 100 ∧ (∀ i ∈ is, i.its.all okV = true) ∧
  ∀ (r : Addr) (bs : List Addr) (H' : Hp) (S' : SV), H r = none → H' r = some (.lst (bs.map V.ref)) → At H' bs (is.map fun i => (Cell.ins 0 i).its) → Fm [st, g] H H' → LS H' st g c cs S' → S'.t ≤ S.t + 1000 → Q (.ref r) H'
def kindsL : List Str := [("show" : Str), ("turn" : Str), ("take" : Str), ("goto" : Str), ("stop" : Str)]
def BlkOk (n : Int) (p : Str × Int) : Prop := p.1 ∈ kindsL ∧ 0 ≤ p.2 ∧ p.2 < n
def blkV (p : Str × Int) : List V := [.str p.1, .int p.2]
def rBlocks : V → V → Hp → VK → XK → Prop := fun x y H Q _ => ∃ (st g c : Addr) (cs : List Int) (S : SV) (n : Int), x = .ref st ∧ y = .int n ∧ LS H st g c cs S ∧ S.t ≤ 1000000000 ∧ 1 ≤ n ∧ n ≤ 10 ∧
  ∀ (r : Addr) (bs : List Addr) (ps : List (Str × Int)) (H' : Hp) (S' : SV), H r = none → H' r = some (.lst (bs.map V.ref)) → At H' bs (ps.map blkV) → (ps.length : Int) = n → (∀ p ∈ ps, BlkOk n p) → Fm [st, g] H H' → LS H' st g c cs S' → S'.t ≤ S.t + 100 → Q (.ref r) H'
section
variable {P : Program} {w : World} {K : PySem.W.Frag} {mg : Str → Option Value} {base : Heap}
theorem ok_law_code_blocks (D : DefAt K mg "_law_code_blocks" s_law_code_blocks) (T : Txt K mg) (C_law_draw : Cal P w K mg base CX0 2 "_law_draw" [("_law_state" : Str), ("_law_room" : Str)] (Sp2 rDraw))
    (C_law_pick : Cal P w K mg base CX0 3 "_law_pick" [("_law_state" : Str), ("_law_some" : Str)] (Sp2 rPick)) :
    Cal P w K mg base CX0 4 "_law_code_blocks" [("_law_state" : Str), ("_law_blocks" : Str)] (Sp2 rBlocks) := by
  refine cal_of D sc_law_code_blocks (fun _ _ _ _ _ _ us hl => match us, hl with | [_, _], _ => rfl) (fun vs H Q E h => ?_) (fun f cdv A outer s H vs Q E hr h => ⟨_, PSs.nox ((pss_cons (ps_set (i := 2) sc_law_code_blocks.nd rfl (Or.inl rfl) (pe_lst pa_nil))
      (pss_cons (ps_for PassesOwn.never rfl (pi_range1 rfl T.b_range (pa_cons (pv 1) pa_nil)) (pg_name (i := 3) sc_law_code_blocks.nd rfl (Or.inl rfl)) (pss_cons (ps_set (i := 4) sc_law_code_blocks.nd rfl (Or.inl rfl) (pe_ifExp (pt_cmpR op_eq (pv 3) (pe_op op_sub (pv 1) pe_int) (nomark _)) pe_str (pe_cl C_law_pick hr (by decide) pass0 rfl (pa_cons (pv 0) (pa_cons (pe_lst (pa_cons pe_str (pa_cons pe_str (pa_cons pe_str (pa_cons pe_str (pa_cons pe_str (pa_cons pe_str pa_nil))))))) pa_nil)))))
      (pss_cons (ps_set (i := 5) sc_law_code_blocks.nd rfl (Or.inl rfl) (pe_ifExp (pt_cmpR op_lt (pv 3) (pe_op op_sub (pv 1) pe_int) (nomark _)) (pe_cl C_law_pick hr (by decide) pass0 rfl (pa_cons (pv 0) (pa_cons (pe_lst (pa_cons (pe_op op_add (pv 3) pe_int) (pa_cons (pe_op op_sub (pv 1) pe_int) (pa_cons (pe_cl C_law_draw hr (by decide) pass0 rfl (pa_cons (pv 0) (pa_cons (pv 1) pa_nil))) pa_nil)))) pa_nil))) pe_int))
      (pss_one (ps_expr (pe_bmK (K := K) PySem.F.plainAttrs_list PySem.F.slot_list_append PySem.F.type_list_append mt_append (pv 2) (pa_cons (pe_tup (pa_cons (pv 4) (pa_cons (pv 5) pa_nil))) pa_nil)))))))
      (pss_one (ps_ret (pv 2)))))), ?_⟩)
  · obtain ⟨a, b, rfl, _⟩ := h
    rfl
  · obtain ⟨x, y, rfl, st, g, c, cs, S, n, rfl, rfl, l, hT, n1, n2, q⟩ := h
    have gc := l.gc
    have kn := l.kn
    walk_at "wp"
    refine w_kLst kn rfl fun fo H1 kn => ?_
    have kn := kn.sw
    walk_at "wp"
    refine w_forR ⟨by omega, by omega⟩ (fun i σ' H' => ∃ (S' : SV) (bs : List Addr) (ps : List (Str × Int)) (a3 a4 a5 : Option V), σ' = [some (.ref st), some (.int n), some (.ref fo), a3, a4, a5] ∧ ps.length = i ∧ (∀ p ∈ ps, BlkOk n p) ∧ 0 ≤ S'.t ∧ S'.t ≤ S.t + 3 * i ∧
        Kn H [st, g] [(c, .lst (cs.map V.int))] H' [(st, oSt g c S'), (g, oG S'), (fo, .lst (bs.map V.ref))] [] (fun H => At H bs (ps.map blkV)))
      ⟨S, [], [], none, none, none, rfl, rfl, (fun p hp => by cases hp), l.tl, by omega, kn.imp (At.mo _ _) fun _ => .nil⟩ (fun i σ' H' hi hp => ?_) (fun σ' H' hp => ?_)
    · obtain ⟨S', bs, ps, a3, a4, a5, rfl, hl, hps, t1, t2, kn⟩ := hp
      have hbl : bs.length = ps.length := by
        have := kn.pp.len
        simpa using this
      walk_at "wp"
      refine kIf_d (fun e => ?_) fun e => ?_
      · walk_at "wp"
        refine kIf_d (fun e2 => absurd e2 (by omega)) fun e2 => ?_
        walk_at "wp"
        refine w_kTup kn rfl fun a H2 kn => ?_
        walk_at "wp"
        refine w_append kn 2 rfl (by rw [List.length_map]; omega) fun H3 kn => ?_
        walk_at "wp"
        refine ⟨S', bs ++ [a], ps ++ [(("stop" : Str), 0)], _, _, _, rfl, by rw [List.length_append, hl] <;> rfl, fun p hp => ?_, t1, by omega, ?_⟩
        · rcases List.mem_append.mp hp with hp | hp
          · exact hps p hp
          · have e : p = (("stop" : Str), 0) := by simpa using hp
            rw [e]
            exact ⟨by unfold kindsL; simp, by decide, by show (0 : Int) < n; omega⟩
        · have ha := kn.t 0 rfl
          have kn := (kn.imp (At.mo (bs ++ [a]) ((ps ++ [(("stop" : Str), 0)]).map blkV)) (fun h => by rw [List.map_append]; exact h.app (.one ha))).noT
          rw [List.map_append]
          exact kn
      · walk_at "wp"
        refine w_kLst kn rfl fun o H2 kn => ?_
        walk_at "wp"
        refine w_pick kn.sw (kn.r 0 rfl) gc t1 (by omega) 0 rfl (by decide) (by decide) fun v H3 S3 hv kn hc t3 t3' => ?_
        obtain ⟨kd, rfl, hk⟩ : ∃ kd, v = V.str kd ∧ kd ∈ kindsL := by
          simp only [List.mem_cons, List.not_mem_nil, or_false] at hv
          unfold kindsL
          rcases hv with e | e | e | e | e | e <;> exact ⟨_, e, by simp⟩
        have kn := kn.drop3
        walk_at "wp"
        refine kIf_d (fun e2 => ?_) fun e2 => absurd (show (i : Int) < n - 1 by omega) e2
        walk_at "wp"
        refine w_draw kn hc gc t3 (by omega) (by omega) (by omega) fun k H5 S5 k0 k1 kn hc t5 t5' => ?_
        walk_at "wp"
        refine w_kLst kn rfl fun o H6 kn => ?_
        walk_at "wp"
        refine w_pick kn.sw (kn.r 0 rfl) gc t5 (by omega) 0 rfl (by show 0 < 3; decide) (by show 3 ≤ 100000; decide) fun v H7 S7 hv kn hc t7 t7' => ?_
        obtain ⟨z, rfl, z1, z2⟩ : ∃ z, v = V.int z ∧ 0 ≤ z ∧ z < n := by
          simp only [List.mem_cons, List.not_mem_nil, or_false] at hv
          rcases hv with e | e | e <;> exact ⟨_, e, by omega, by omega⟩
        have kn := kn.drop3
        walk_at "wp"
        refine w_kTup kn rfl fun a H2 kn => ?_
        walk_at "wp"
        refine w_append kn 2 rfl (by rw [List.length_map]; omega) fun H3 kn => ?_
        walk_at "wp"
        refine ⟨S7, bs ++ [a], ps ++ [(kd, z)], _, _, _, rfl, by rw [List.length_append, hl] <;> rfl, fun p hp => ?_, t7, by omega, ?_⟩
        · rcases List.mem_append.mp hp with hp | hp
          · exact hps p hp
          · have e : p = (kd, z) := by simpa using hp
            rw [e]
            exact ⟨hk, z1, z2⟩
        · have ha := kn.t 0 rfl
          have kn := (kn.imp (At.mo (bs ++ [a]) ((ps ++ [(kd, z)]).map blkV)) (fun h => by rw [List.map_append]; exact h.app (.one ha))).noT
          rw [List.map_append]
          exact kn
    · obtain ⟨S', bs, ps, a3, a4, a5, rfl, hl, hps, t1, t2, kn⟩ := hp
      walk_at "wp"
      exact q fo bs ps H' S' kn.ow3 (kn.l 2 rfl) kn.pp (by omega) hps kn.fr ⟨kn.l 0 rfl, kn.l 1 rfl, kn.r 0 rfl, gc, t1⟩ (by omega)
theorem ok_law_laid (D : DefAt K mg "_law_laid" s_law_laid) (T : Txt K mg) (C_law_draw : Cal P w K mg base CX0 2 "_law_draw" [("_law_state" : Str), ("_law_room" : Str)] (Sp2 rDraw))
    (C_law_pick : Cal P w K mg base CX0 3 "_law_pick" [("_law_state" : Str), ("_law_some" : Str)] (Sp2 rPick)) :
    Cal P w K mg base CX0 4 "_law_laid" [("_law_state" : Str), ("_law_hues" : Str), ("_law_steps" : Str)] (Sp3 rLaid) := by
  refine cal_of D sc_law_laid (fun _ _ _ _ _ _ us hl => match us, hl with | [_, _, _], _ => rfl) (fun vs H Q E h => ?_) (fun f cdv A outer s H vs Q E hr h => ⟨_, PSs.nox ((pss_cons (ps_setLc (i := 3) (own := [("_law_hue", 7)]) rfl sc_law_laid.nd rfl rfl (sw_true rfl rfl rfl (by decide +kernel)) (pi_range1 rfl T.b_range (pa_cons (pv 1) pa_nil)) (blkOk_by (own := [("_law_hue", 7)]) (N := N_law_laid) (sc := defScope s_law_laid) (by decide +kernel)) (fun _ _ _ _ _ => (pg_name (i := 7) sc_law_laid.nd rfl (by first | exact Or.inl rfl | exact Or.inr rfl))) (fun _ _ _ _ _ => pts_nil) (fun _ _ _ _ _ => by exact (pe_lc (own := [("_law_step", 8)]) rfl sc_law_laid.nd (pi_listK (K := K) (pv 2)) (blkOk_by (own := [("_law_step", 8)]) (N := N_law_laid) (sc := relS (lcFirst s_law_laid) (defScope s_law_laid)) (by decide +kernel)) (fun _ _ _ _ _ => (pg_name (i := 8) sc_law_laid.nd rfl (by first | exact Or.inl rfl | exact Or.inr rfl))) (fun _ _ _ _ _ => pts_nil) (fun _ _ _ _ _ => by exact (pe_op (op_catAK (K := K)) (pe_tup (pa_cons (pv 7) pa_nil)) (pv 8))))))
      (pss_cons (ps_set (i := 4) sc_law_laid.nd rfl (Or.inl rfl) (pe_lst pa_nil))
      (pss_cons (ps_if (pt_cmpR op_eq (pe_cl C_law_draw hr (by decide) pass0 rfl (pa_cons (pv 0) (pa_cons pe_int pa_nil))) pe_int (nomark _)) (pss_cons (ps_for PassesOwn.never rfl (pi_listK (K := K) (pv 3)) (pg_name (i := 5) sc_law_laid.nd rfl (Or.inl rfl)) (pss_one (ps_set (i := 4) sc_law_laid.nd rfl (Or.inl rfl) (pe_op op_cat (pv 4) (pv 5)))))
      (pss_one (ps_ret (pv 4)))) pss_nil)
      (pss_cons (ps_while PassesOwn.never (pt_cmpR (op_neDK (K := K) hr.units) (pe_lc (own := [("_law_one", 5)]) rfl sc_law_laid.nd (pi_listK (K := K) (pv 3)) (blkOk_by (own := [("_law_one", 5)]) (N := N_law_laid) (sc := defScope s_law_laid) (by decide +kernel)) (fun _ _ _ _ _ => (pg_name (i := 5) sc_law_laid.nd rfl (by first | exact Or.inl rfl | exact Or.inr rfl))) (fun _ _ _ _ _ => by exact (pts_one (pt_cmpR (op_neDK (K := K) hr.units) (pv 5) (pe_lst pa_nil) (nomark _)))) (fun _ _ _ _ _ => by exact (pv 5))) (pe_lst pa_nil) (nomark _)) (pss_cons (ps_setLc (i := 6) (own := [("_law_one", 5)]) rfl sc_law_laid.nd rfl rfl (sw_true rfl rfl rfl (by decide +kernel)) (pi_listK (K := K) (pv 3)) (blkOk_by (own := [("_law_one", 5)]) (N := N_law_laid) (sc := defScope s_law_laid) (by decide +kernel)) (fun _ _ _ _ _ => (pg_name (i := 5) sc_law_laid.nd rfl (by first | exact Or.inl rfl | exact Or.inr rfl))) (fun _ _ _ _ _ => by exact (pts_one (pt_cmpR (op_neDK (K := K) hr.units) (pv 5) (pe_lst pa_nil) (nomark _)))) (fun _ _ _ _ _ => by exact (pv 5)))
      (pss_one (ps_expr (pe_bmK (K := K) PySem.F.plainAttrs_list PySem.F.slot_list_append PySem.F.type_list_append mt_append (pv 4) (pa_cons (pe_bmK (K := K) PySem.F.plainAttrs_list PySem.F.slot_list_pop PySem.F.type_list_pop mt_popAt (pe_cl C_law_pick hr (by decide) pass0 rfl (pa_cons (pv 0) (pa_cons (pv 6) pa_nil))) (pa_cons pe_int pa_nil)) pa_nil))))))
      (pss_one (ps_ret (pv 4)))))))), ?_⟩)
  · obtain ⟨a, b, c, rfl, _⟩ := h
    rfl
  · obtain ⟨x, y, z, rfl, st, g, c, l, cs, S, as, is, rfl, rfl, rfl, ls, hT, hl, lg, ha, hn, hok, q⟩ := h
    have gc := ls.gc
    have kn := ls.kn2 hl lg (At.mo as (is.map Ins.its)) ha
    have hla : as.length = is.length := by
      have := ha.len
      simpa using this
    walk_at "wp"
    have ld : ∀ {H1 : Hp} {bs : List Addr} {k : Nat}, At H1 bs ((is.take k).map fun i => (Cell.ins 0 i).its) → k ≤ is.length → bs.length = k := fun {H1 bs k} h hk => by
      have := h.len
      rw [List.length_map, List.length_take] at this
      omega
    refine w_lcR ⟨by decide, by decide⟩ kn (fun D i H' => (i = 0 ∧ Kn H [st, g] [(c, .lst (cs.map V.int)), (l, .lst (as.map V.ref))] H' [(D, .lst []), (st, oSt g c S), (g, oG S)] [] (fun H => At H as (is.map Ins.its))) ∨
        (i = 1 ∧ ∃ (L0 : Addr) (bs : List Addr), Kn H [st, g] [(c, .lst (cs.map V.int)), (l, .lst (as.map V.ref))] H' [(st, oSt g c S), (g, oG S), (D, .lst [.ref L0]), (L0, .lst (bs.map V.ref))] [] (fun H => At H bs (is.map fun i => (Cell.ins 0 i).its))))
      (fun D H' kn => .inl ⟨rfl, kn⟩) (fun D i H' hi hp => ?_) (fun D H1 hp => ?_)
    · rcases hp with ⟨rfl, kn⟩ | ⟨rfl, _⟩
      · walk_at "wp"
        refine w_lcL kn (SqL.of (kn.r 1 rfl)) (fun D2 k H2 => ∃ bs, Kn H [st, g] [(c, .lst (cs.map V.int)), (l, .lst (as.map V.ref))] H2 [(D2, .lst (bs.map V.ref)), (D, .lst []), (st, oSt g c S), (g, oG S)] [] (fun H => At H as (is.map Ins.its) ∧ At H bs ((is.take k).map fun i => (Cell.ins 0 i).its)))
          (fun D2 H2 kn => ⟨[], kn.and (At.mo _ _) .nil⟩) (fun D2 k H2 _ hp => ?_) (fun D2 k x H2 hx hk hp => ?_) (fun D2 H2 hp => ?_)
        · obtain ⟨_, kn⟩ := hp
          exact SqL.of (kn.r 1 rfl)
        · obtain ⟨bs, kn⟩ := hp
          rw [List.length_map] at hk
          obtain ⟨a, ea, rfl⟩ := At.refs hx
          obtain ⟨xs, ex, ha2⟩ := kn.pp.1.get' ea
          rw [List.getElem?_map] at ex
          obtain ⟨ik, ei, rfl⟩ := Option.map_eq_some_iff.mp ex
          have kn := kn.tps (T' := [(a, ik.its)]) (fun q hq => by
            have e : q = (a, ik.its) := by simpa using hq
            rw [e]
            exact ha2)
          walk_at "wp"
          refine w_kTup kn rfl fun p H3 kn => ?_
          walk_at "wp"
          have hle := ik.le
          refine w_catT kn (SqT.of (kn.t 0 rfl)) (SqT.of (kn.t 1 rfl)) (by rw [List.length_singleton]; omega) (by intro z; cases z) ik.ne fun q' H4 kn => ?_
          have hb := ld kn.pp.2 (by omega)
          refine w_kAcc kn 0 rfl (by rw [List.length_map]; omega) fun H5 kn => ?_
          have hq := kn.t 0 rfl
          refine ⟨bs ++ [q'], ?_⟩
          have kn := (kn.imp (S := fun H => At H as (is.map Ins.its) ∧ At H (bs ++ [q']) ((is.take (k + 1)).map fun i => (Cell.ins 0 i).its)) (fun _ _ t h => ⟨h.1.mono t, h.2.mono t⟩) fun h => ⟨h.1, by
            rw [take_map _ ei]
            exact h.2.app (.one hq)⟩).noT
          rw [List.map_append]
          exact kn
        · obtain ⟨bs, kn⟩ := hp
          refine w_kAcc kn 1 rfl (Nat.zero_le _) fun H3 kn => ?_
          refine .inr ⟨rfl, D2, bs, ?_⟩
          have kn := kn.imp (S := fun H => At H bs (is.map fun i => (Cell.ins 0 i).its)) (At.mo _ _) fun h => by
            have e := h.2
            rw [List.length_map, hla, List.take_length] at e
            exact e
          exact (show Kn H [st, g] [(c, .lst (cs.map V.int)), (l, .lst (as.map V.ref))] H3 [(D, .lst [.ref D2]), (D2, .lst (bs.map V.ref)), (st, oSt g c S), (g, oG S)] [] _ from kn.obs (by
            have nd := kn.nd
            simp only [List.set, List.map_cons, List.map_nil, List.nodup_cons, List.mem_cons, not_or] at nd ⊢
            exact ⟨⟨fun e => nd.1.1 e.symm, nd.2.1⟩, nd.1.2, nd.2.2⟩) (fun q hq => by
            simp only [List.set, List.mem_cons] at hq ⊢
            rcases hq with e | e | e | e | e
            · exact .inr (.inl e)
            · exact .inl e
            · exact .inr (.inr (.inl e))
            · exact .inr (.inr (.inr (.inl e)))
            · cases e)).sw2
      · omega
    · rcases hp with ⟨e, _⟩ | ⟨_, L0, bs, kn⟩
      · cases e
      · have hbl : bs.length = is.length := by
          have := kn.pp.len
          simpa using this
        walk_at "wp"
        refine w_kLst kn rfl fun fo H2 kn => ?_
        have kn := kn.sw
        walk_at "wp"
        refine w_draw kn (kn.r 0 rfl) gc ls.tl (by omega) (by decide) (by decide) fun k H3 S3 k0 k1 kn hc t3 t3' => ?_
        walk_at "wp"
        refine kIf_d (fun e => ?_) fun e => ?_
        · walk_at "wp"
          refine w_forL (SqL.of (kn.l 3 rfl)) (fun i σ' H' => ∃ (a5 : Option V) (fo : Addr), σ' = [some (.ref st), some (.int 1), some (.ref l), some (.ref D), some (.ref fo), a5, none, none, none] ∧
              ∃ bs2 : List Addr, bs2 = (if i = 0 then [] else bs) ∧ Kn H [st, g] [(c, .lst (cs.map V.int)), (l, .lst (as.map V.ref))] H' [(st, oSt g c S3), (g, oG S3), (fo, .lst (bs2.map V.ref)), (D, .lst [.ref L0]), (L0, .lst (bs.map V.ref))] [] (fun H => At H bs (is.map fun i => (Cell.ins 0 i).its)))
            ⟨none, fo, rfl, [], rfl, kn⟩ (fun i σ' H' _ hp => ?_) (fun i x σ' H' hx hi hp => ?_) (fun σ' H' hp => ?_)
          · obtain ⟨_, _, _, _, _, kn⟩ := hp
            exact SqL.of (kn.l 3 rfl)
          · obtain ⟨a5, fo, rfl, bs2, rfl, kn⟩ := hp
            have e0 : i = 0 := by
              have : i < 1 := hi
              omega
            subst e0
            cases hx
            walk_at "wp"
            refine w_cat kn (kn.l 2 rfl) (kn.l 4 rfl) (by rw [List.length_map]; simp; omega) fun r H4 kn => ?_
            walk_at "wp"
            have kn := kn.sw
            refine ⟨_, r, rfl, bs, rfl, ?_⟩
            exact kn.obs (by
              have nd := kn.nd
              simp only [List.map_cons, List.map_nil, List.nodup_cons, List.mem_cons, not_or] at nd ⊢
              exact ⟨⟨nd.1.1, nd.1.2.1, nd.1.2.2.2⟩, ⟨nd.2.1.1, nd.2.1.2.2⟩, nd.2.2.1.2, nd.2.2.2.2⟩) (fun q hq => by
              simp only [List.mem_cons] at hq ⊢
              rcases hq with e | e | e | e | e | e
              · exact .inl e
              · exact .inr (.inl e)
              · exact .inr (.inr (.inl e))
              · exact .inr (.inr (.inr (.inr (.inl e))))
              · exact .inr (.inr (.inr (.inr (.inr (.inl e)))))
              · cases e)
          · obtain ⟨a5, fo, rfl, bs2, e2, kn⟩ := hp
            have e2 : bs2 = bs := e2
            subst e2
            walk_at "wp"
            exact q fo bs2 H' S3 kn.ow3 (kn.l 2 rfl) kn.pp kn.fr ⟨kn.l 0 rfl, kn.l 1 rfl, kn.r 0 rfl, gc, t3⟩ (by omega)
        · have okc : ∀ xs ∈ is.map (fun i => (Cell.ins 0 i).its), xs.all okV = true := fun xs hx => by
            obtain ⟨i, hi, rfl⟩ := List.mem_map.mp hx
            exact hok i hi
          have okd : ∀ j, ∀ xs ∈ (is.map (fun i => (Cell.ins 0 i).its)).drop j, xs.all okV = true := fun j xs hx => okc xs (List.mem_of_mem_drop hx)
          refine w_while (fun m σ' H' => ∃ (j : Nat) (a6 : Option V) (S' : SV), j ≤ bs.length ∧ m = bs.length - j ∧ σ' = [some (.ref st), some (.int 1), some (.ref l), some (.ref D), some (.ref fo), none, a6, none, none] ∧ 0 ≤ S'.t ∧ S'.t ≤ S.t + 1 + j ∧
              Kn H [st, g] [(c, .lst (cs.map V.int)), (l, .lst (as.map V.ref))] H' [(st, oSt g c S'), (g, oG S'), (fo, .lst ((bs.take j).map V.ref)), (D, .lst [.ref L0]), (L0, .lst ((bs.drop j).map V.ref))] [] (fun H => At H bs (is.map fun i => (Cell.ins 0 i).its)))
            bs.length ⟨0, none, S3, Nat.zero_le _, rfl, rfl, t3, by omega, kn⟩ (fun m σ' H' hp => ?_)
          obtain ⟨j, a6, S', hj, rfl, rfl, t4, t4', kn⟩ := hp
          have hjd : (bs.drop j).isEmpty = decide (j = bs.length) := by
            cases e : bs.drop j with
            | nil =>
              have := List.drop_eq_nil_iff.mp e
              exact (decide_eq_true (by omega)).symm
            | cons x xs =>
              refine (decide_eq_false fun z => ?_).symm
              rw [z, List.drop_length] at e
              cases e
          walk_at "wp"
          refine w_lcL kn (SqL.of (kn.l 3 rfl)) (fun D2 i H2 => ∃ os : List V, os = (if i = 0 ∨ j = bs.length then [] else [.ref L0]) ∧
              Kn H [st, g] [(c, .lst (cs.map V.int)), (l, .lst (as.map V.ref))] H2 [(D2, .lst os), (st, oSt g c S'), (g, oG S'), (fo, .lst ((bs.take j).map V.ref)), (D, .lst [.ref L0]), (L0, .lst ((bs.drop j).map V.ref))] [] (fun H => At H bs (is.map fun i => (Cell.ins 0 i).its)))
            (fun D2 H2 kn => ⟨[], rfl, kn⟩) (fun D2 i H2 _ hp => ?_) (fun D2 i x H2 hx hi hp => ?_) (fun D2 H2 hp => ?_)
          · obtain ⟨_, _, kn⟩ := hp
            exact SqL.of (kn.l 4 rfl)
          · obtain ⟨os, e0, kn⟩ := hp
            have i0 : i = 0 := by
              have : i < 1 := hi
              omega
            subst i0
            have e0 : os = [] := e0
            subst e0
            cases hx
            walk_at "wp"
            refine w_kLst kn rfl fun o H3 kn => ?_
            refine w_neE (SqL.of (kn.l 6 rfl)) (At.dp (kn.pp.drop j) (okd j)) (n := 1) (.tD (okd j)) (by decide) (SqL.of (kn.l 0 rfl)) ?_
            rw [isEmpty_map, hjd]
            refine w_kB (kIf_nd (fun e => ?_) fun e => ?_)
            · walk_at "wp"
              refine w_kAcc kn.drop 0 rfl (Nat.zero_le _) fun H4 kn => ?_
              exact ⟨[.ref L0], by rw [if_neg (by omega)], kn⟩
            · exact ⟨[], by rw [if_pos (.inr e)], kn.drop⟩
          · obtain ⟨os, e0, kn⟩ := hp
            walk_at "wp"
            refine w_kLst kn rfl fun o H3 kn => ?_
            by_cases je : j = bs.length
            · rw [if_pos (.inr je)] at e0
              subst e0
              refine w_neE (SqL.of (kn.l 1 rfl)) .nil (n := 0) .nil (by decide) (SqL.of (kn.l 0 rfl)) ?_
              walk_at "wp"
              subst je
              have kn := kn.drop.drop
              rw [List.take_length] at kn
              walk_at "wp"
              exact q fo bs H3 S' kn.ow3 (kn.l 2 rfl) kn.pp kn.fr ⟨kn.l 0 rfl, kn.l 1 rfl, kn.r 0 rfl, gc, t4⟩ (by omega)
            · rw [if_neg (by show ¬ (1 = 0 ∨ j = bs.length); omega)] at e0
              subst e0
              refine w_neE (SqL.of (kn.l 1 rfl)) (.cons (.lst (SqL.of (kn.l 6 rfl)) (At.dp (kn.pp.drop j) (okd j))) .nil) (n := 2) (.cons (NDs.tD (okd j)).list .nil) (by decide) (SqL.of (kn.l 0 rfl)) ?_
              walk_at "wp"
              refine w_kLoop ?_
              have kn := kn.drop.drop
              walk_at "wp"
              refine w_lcL kn (SqL.of (kn.l 3 rfl)) (fun D3 i H2 => ∃ os : List V, os = (if i = 0 then [] else [.ref L0]) ∧
                  Kn H [st, g] [(c, .lst (cs.map V.int)), (l, .lst (as.map V.ref))] H2 [(D3, .lst os), (st, oSt g c S'), (g, oG S'), (fo, .lst ((bs.take j).map V.ref)), (D, .lst [.ref L0]), (L0, .lst ((bs.drop j).map V.ref))] [] (fun H => At H bs (is.map fun i => (Cell.ins 0 i).its)))
                (fun D2 H2 kn => ⟨[], rfl, kn⟩) (fun D2 i H2 _ hp => ?_) (fun D2 i x H2 hx hi hp => ?_) (fun D3 H2 hp => ?_)
              · obtain ⟨_, _, kn⟩ := hp
                exact SqL.of (kn.l 4 rfl)
              · obtain ⟨os, e0, kn⟩ := hp
                have i0 : i = 0 := by
                  have : i < 1 := hi
                  omega
                subst i0
                have e0 : os = [] := e0
                subst e0
                cases hx
                walk_at "wp"
                refine w_kLst kn rfl fun o H3 kn => ?_
                refine w_neE (SqL.of (kn.l 6 rfl)) (At.dp (kn.pp.drop j) (okd j)) (n := 1) (.tD (okd j)) (by decide) (SqL.of (kn.l 0 rfl)) ?_
                rw [isEmpty_map, hjd]
                refine w_kB (kIf_nd (fun e => ?_) fun e => absurd e je)
                walk_at "wp"
                refine w_kAcc kn.drop 0 rfl (Nat.zero_le _) fun H4 kn => ?_
                exact ⟨[.ref L0], rfl, kn⟩
              · obtain ⟨os, e0, kn⟩ := hp
                have e0 : os = [.ref L0] := e0
                subst e0
                have kn := kn.pm [1, 2, 0, 3, 4, 5] (by decide)
                walk_at "pm"
                walk_at "wp"
                refine w_pick kn (kn.r 0 rfl) gc t4 (by omega) 0 rfl Nat.zero_lt_one (by show 1 ≤ 100000; decide) fun v H5 S5 hv kn hc t5 t5' => ?_
                have e1 : v = .ref L0 := by simpa using hv
                subst e1
                have jl : j < bs.length := by omega
                have e2 : bs.drop j = bs[j] :: bs.drop (j + 1) := List.drop_eq_getElem_cons jl
                rw [e2] at kn
                walk_at "wp"
                refine w_pop kn (i := 0) (m := 0) 5 rfl (by decide) (by decide) (seq0 (Nat.succ_pos _)) rfl fun H6 kn => ?_
                walk_at "wp"
                refine w_append kn 3 rfl (by rw [List.length_map, List.length_take]; omega) fun H7 kn => ?_
                walk_at "wp"
                have kn := kn.pm [0, 1, 3, 4, 5] (by decide)
                walk_at "pm"
                refine ⟨_, ?_, j + 1, _, S5, jl, rfl, rfl, t5, by omega, ?_⟩
                · omega
                · rw [take_map V.ref (List.getElem?_eq_getElem jl)]
                  exact kn
end
end Hue
set_option Elab.async false
set_option linter.all false
set_option maxRecDepth 100000
set_option maxHeartbeats 4000000
set_option autoImplicit false
namespace Hue
open PySem PySem.Spec PyProof.Rows L2
def N_law_loose_code : List Str := [("_law_state" : Str), ("_law_size_here" : Str), ("_law_bank" : Str), ("_law_cells" : Str), ("_law_many" : Str), ("_law_at" : Str), ("_law_way" : Str), ("_law_spot" : Str)]
theorem sc_law_loose_code : FnScope N_law_loose_code [("_law_state" : Str)] (defScope s_law_loose_code) := ⟨rfl, rfl, rfl, by decide +kernel, rfl, by decide +kernel, by decide +kernel⟩
theorem Cell.Ok.big {x : Cell} {h m nb n n' : Int} (hx : x.Ok h m nb n) (hn : n ≤ n') : x.Ok h m nb n' := by
  cases x with
  | turn g w => exact ⟨hx.1, Int.lt_of_lt_of_le hx.2.1 hn, hx.2.2⟩
  | goto g => exact ⟨hx.1, Int.lt_of_lt_of_le hx.2 hn⟩
  | _ => exact hx
theorem w_pushC {H0 H : Hp} {M : List Addr} {R L : Obs} {T : Tps} {p a : Addr} {as : List Addr} {cs : List Cell} {c : Cell} {Q : VK} (kn : Kn H0 M R H L T (fun H => At H as (cs.map Cell.its))) (j : Nat) (hj : L[j]? = some (p, .lst (as.map V.ref))) (hs : cs.length ≤ 10000) (ha : H a = some (.tup c.its))
    (h : ∀ H', Kn H0 M R H' (L.set j (p, .lst ((as ++ [a]).map V.ref))) [] (fun H => At H (as ++ [a]) ((cs ++ [c]).map Cell.its)) → Q .non H') : rAppend (.ref p) [.ref a] H Q := by
  have hl : as.length = cs.length := by
    have := kn.pp.len
    simpa using this
  have kn := kn.tps (T' := [(a, c.its)]) (fun q hq => by
    have e : q = (a, c.its) := by simpa using hq
    rw [e]
    exact ha)
  refine w_append kn j hj (by rw [List.length_map]; omega) fun H' kn => ?_
  have ha := kn.t 0 rfl
  have kn := (kn.imp (S := fun H => At H (as ++ [a]) ((cs ++ [c]).map Cell.its)) (At.mo _ _) (fun h => by rw [List.map_append]; exact h.app (.one ha))).noT
  refine h H' ?_
  rw [List.map_append]
  exact kn
/-- what a maker of codes gives: a code of one hue -/
def Gen1 (H : Hp) (st g c : Addr) (cs : List Int) (S : SV) (Q : VK) (bnd top : Int) : Prop := S.t ≤ bnd ∧
  ∀ (a : Addr) (C : Code) (H' : Hp) (S' : SV), IsCode H' a C → C.Ok → C.votes = [1] → C.cells.length ≤ 48 → Fm [st, g] H H' → LS H' st g c cs S' → S'.t ≤ S.t + top → Q (.ref a) H'
def rLoose : V → Hp → VK → XK → Prop := fun x H Q _ => ∃ (st g c : Addr) (cs : List Int) (S : SV), x = .ref st ∧ LS H st g c cs S ∧ Gen1 H st g c cs S Q 100000000 10000
theorem votes1 : VotesOk [1] := ⟨by decide, by decide, fun i v e => by
  cases i with
  | zero =>
    cases e
    decide
  | succ i => cases e⟩
/-- numbers drawn one by one -/
def NumsOk (m : Int) (ns : List Int) : Prop := ∀ n ∈ ns, 0 ≤ n ∧ n < m
theorem NumsOk.snoc {m k : Int} {ns : List Int} (h : NumsOk m ns) (k0 : 0 ≤ k) (k1 : k < m) : NumsOk m (ns ++ [k]) := fun n hn => by
  rcases List.mem_append.mp hn with hn | hn
  · exact h n hn
  · have e : n = k := by simpa using hn
    rw [e]
    exact ⟨k0, k1⟩
theorem w_plain {H0 H : Hp} {M : List Addr} {R L : Obs} {T : Tps} {P : Hp → Prop} {st g c : Addr} {cs : List Int} {S : SV} {m b : Int} {Q : VK} {E : XK} (kn : Kn H0 M R H ((st, oSt g c S) :: (g, oG S) :: L) T P) (hc : H c = some (.lst (cs.map V.int))) (gc : g ≠ c) (t0 : 0 ≤ S.t) (tb : S.t ≤ 10000000000) (m0 : 2 ≤ m) (m1 : m ≤ 10000) (b0 : 0 ≤ b) (b1 : b ≤ 600)
    (h : ∀ a i H' S', Ins.Ok m b i → Kn H0 M R H' ((st, oSt g c S') :: (g, oG S') :: L) ((a, i.its) :: T) P → H' c = some (.lst (cs.map V.int)) → 0 ≤ S'.t → S'.t ≤ S.t + 100 → Q (.ref a) H') : rPlain (.ref st) (.int m) (.int b) H Q E :=
  ⟨st, g, c, cs, S, m, b, rfl, rfl, rfl, ⟨kn.l 0 rfl, kn.l 1 rfl, hc, gc, t0⟩, tb, m0, m1, b0, b1, fun a i H' S' ha hi f l t => h a i H' S' hi ((kn.drawn f l).tps fun q hq => by
    rcases List.mem_cons.mp hq with e | hq
    · rw [e]
      exact ha
    · exact (kn.drawn f l).ta q hq) l.c_ l.tl t⟩
section
variable {P : Program} {w : World} {K : PySem.W.Frag} {mg : Str → Option Value} {base : Heap}
theorem ok_law_loose_code (D : DefAt K mg "_law_loose_code" s_law_loose_code) (T : Txt K mg) (C_law_draw : Cal P w K mg base CX0 2 "_law_draw" [("_law_state" : Str), ("_law_room" : Str)] (Sp2 rDraw))
    (C_law_pick : Cal P w K mg base CX0 3 "_law_pick" [("_law_state" : Str), ("_law_some" : Str)] (Sp2 rPick)) (C_law_number : Cal P w K mg base CX0 4 "_law_number" [("_law_state" : Str), ("_law_size_here" : Str)] (Sp2 rNumber))
    (C_law_size : Cal P w K mg base CX0 4 "_law_size" [("_law_state" : Str)] (Sp1 rSize)) (C_law_plain_step : Cal P w K mg base CX0 5 "_law_plain_step" [("_law_state" : Str), ("_law_size_here" : Str), ("_law_bank" : Str)] (Sp3 rPlain)) :
    Cal P w K mg base CX0 6 "_law_loose_code" [("_law_state" : Str)] (Sp1 rLoose) := by
  refine cal_of D sc_law_loose_code (fun _ _ _ _ _ _ us hl => match us, hl with | [_], _ => rfl) (fun vs H Q E h => ?_) (fun f cdv A outer s H vs Q E hr h => ⟨_, PSs.nox ((pss_cons (ps_asg (pe_tup (pa_cons (pe_cl C_law_size hr (by decide) pass0 rfl (pa_cons (pv 0) pa_nil)) (pa_cons (pe_cl C_law_pick hr (by decide) pass0 rfl (pa_cons (pv 0) (pa_cons (pe_lst (pa_cons pe_int (pa_cons pe_int (pa_cons pe_int (pa_cons pe_int pa_nil))))) pa_nil))) (pa_cons (pe_lst pa_nil) pa_nil)))) (pg_tupK (K := K) (n := 3) rfl (pgs_cons (pg_name (i := 1) sc_law_loose_code.nd rfl (Or.inr rfl)) (pgs_cons (pg_name (i := 2) sc_law_loose_code.nd rfl (Or.inl rfl)) (pgs_cons (pg_name (i := 3) sc_law_loose_code.nd rfl (Or.inl rfl)) pgs_nil)))))
      (pss_cons (ps_set (i := 4) sc_law_loose_code.nd rfl (Or.inl rfl) (pe_op op_add pe_int (pe_cl C_law_draw hr (by decide) pass0 rfl (pa_cons (pv 0) (pa_cons (pe_cl C_law_pick hr (by decide) pass0 rfl (pa_cons (pv 0) (pa_cons (pe_lst (pa_cons pe_int (pa_cons pe_int (pa_cons pe_int pa_nil)))) pa_nil))) pa_nil)))))
      (pss_cons (ps_for PassesOwn.never rfl (pi_range1 rfl T.b_range (pa_cons (pv 4) pa_nil)) (pg_name (i := 5) sc_law_loose_code.nd rfl (Or.inl rfl)) (pss_cons (ps_set (i := 6) sc_law_loose_code.nd rfl (Or.inl rfl) (pe_cl C_law_draw hr (by decide) pass0 rfl (pa_cons (pv 0) (pa_cons pe_int pa_nil))))
      (pss_one (ps_if (pt_cmpR op_eq (pv 6) pe_int (nomark _)) (pss_one (ps_expr (pe_bmK (K := K) PySem.F.plainAttrs_list PySem.F.slot_list_append PySem.F.type_list_append mt_append (pv 3) (pa_cons (pe_tup (pa_cons pe_str (pa_cons (pe_cl C_law_draw hr (by decide) pass0 rfl (pa_cons (pv 0) (pa_cons pe_int pa_nil))) (pa_cons pe_int pa_nil)))) pa_nil)))) (pss_one (ps_if (pt_cmpR op_eq (pv 6) pe_int (nomark _)) (pss_one (ps_expr (pe_bmK (K := K) PySem.F.plainAttrs_list PySem.F.slot_list_append PySem.F.type_list_append mt_append (pv 3) (pa_cons (pe_tup (pa_cons pe_str (pa_cons (pe_cl C_law_draw hr (by decide) pass0 rfl (pa_cons (pv 0) (pa_cons (pv 4) pa_nil))) (pa_cons pe_int pa_nil)))) pa_nil)))) (pss_one (ps_if (pt_cmpR op_eq (pv 6) pe_int (nomark _)) (pss_one (ps_expr (pe_bmK (K := K) PySem.F.plainAttrs_list PySem.F.slot_list_append PySem.F.type_list_append mt_append (pv 3) (pa_cons (pe_tup (pa_cons pe_str (pa_cons (pe_cl C_law_draw hr (by decide) pass0 rfl (pa_cons (pv 0) (pa_cons (pv 4) pa_nil))) pa_nil))) pa_nil)))) (pss_one (ps_if (pt_cmpR op_eq (pv 6) pe_int (nomark _)) (pss_one (ps_expr (pe_bmK (K := K) PySem.F.plainAttrs_list PySem.F.slot_list_append PySem.F.type_list_append mt_append (pv 3) (pa_cons (pe_cl C_law_pick hr (by decide) pass0 rfl (pa_cons (pv 0) (pa_cons (pe_lst (pa_cons (pe_tup (pa_cons pe_str pa_nil)) (pa_cons (pe_tup (pa_cons pe_str pa_nil)) (pa_cons (pe_tup (pa_cons pe_str (pa_cons (pe_cl C_law_draw hr (by decide) pass0 rfl (pa_cons (pv 0) (pa_cons pe_int pa_nil))) (pa_cons pe_int pa_nil)))) pa_nil)))) pa_nil))) pa_nil)))) (pss_one (ps_if (pt_cmpR op_lt (pv 6) pe_int (nomark _)) (pss_cons (ps_expr (pe_bmK (K := K) PySem.F.plainAttrs_list PySem.F.slot_list_append PySem.F.type_list_append mt_append (pv 3) (pa_cons (pe_tup (pa_cons pe_int (pa_cons pe_str (pa_cons (pe_cl C_law_draw hr (by decide) pass0 rfl (pa_cons (pv 0) (pa_cons pe_int pa_nil))) pa_nil)))) pa_nil)))
      (pss_one (ps_expr (pe_bmK (K := K) PySem.F.plainAttrs_list PySem.F.slot_list_append PySem.F.type_list_append mt_append (pv 3) (pa_cons (pe_cl C_law_pick hr (by decide) pass0 rfl (pa_cons (pv 0) (pa_cons (pe_lst (pa_cons (pe_tup (pa_cons pe_str (pa_cons (pe_cl C_law_draw hr (by decide) pass0 rfl (pa_cons (pv 0) (pa_cons pe_int pa_nil))) (pa_cons pe_int pa_nil)))) (pa_cons (pe_tup (pa_cons pe_str (pa_cons (pe_cl C_law_draw hr (by decide) pass0 rfl (pa_cons (pv 0) (pa_cons (pv 4) pa_nil))) (pa_cons pe_int pa_nil)))) pa_nil))) pa_nil))) pa_nil))))) (pss_one (ps_expr (pe_bmK (K := K) PySem.F.plainAttrs_list PySem.F.slot_list_append PySem.F.type_list_append mt_append (pv 3) (pa_cons (pe_op (op_catAK (K := K)) (pe_tup (pa_cons pe_int pa_nil)) (pe_cl C_law_plain_step hr (by decide) pass0 rfl (pa_cons (pv 0) (pa_cons (pv 1) (pa_cons (pv 2) pa_nil))))) pa_nil))))))))))))))))
      (pss_one (ps_ret (pe_tup (pa_cons (pe_tup (pa_cons pe_int pa_nil)) (pa_cons (pv 1) (pa_cons (pe_callTy (cr_tupK (K := K)) (by rfl) T.b_tuple (by decide +kernel) (pa_cons (pv 3) pa_nil)) (pa_cons (pe_callTy (cr_tupK (K := K)) (by rfl) T.b_tuple (by decide +kernel) (pa_cons (pe_lc (own := [("_law_spot", 7)]) rfl sc_law_loose_code.nd (pi_range1 rfl T.b_range (pa_cons (pv 2) pa_nil)) (blkOk_by (own := [("_law_spot", 7)]) (N := N_law_loose_code) (sc := defScope s_law_loose_code) (by decide +kernel)) (fun _ _ _ _ _ => (pg_name (i := 7) sc_law_loose_code.nd rfl (by first | exact Or.inl rfl | exact Or.inr rfl))) (fun _ _ _ _ _ => pts_nil) (fun _ _ _ _ _ => by exact (pe_cl C_law_number hr (by decide) pass0 rfl (pa_cons (pv 0) (pa_cons (pv 1) pa_nil))))) pa_nil)) pa_nil))))))))))), ?_⟩)
  · obtain ⟨a, rfl, _⟩ := h
    rfl
  · obtain ⟨x, rfl, st, g, c, cs, S, rfl, l, hT, q⟩ := h
    have gc := l.gc
    have kn := l.kn
    have hc := l.c_
    walk_at "wp"
    refine w_size kn hc gc l.tl (by omega) fun m H1 S1 m0 m1 kn hc t1 t1' => ?_
    walk_at "wp"
    refine w_kLst kn rfl fun o H2 kn => ?_
    have kn := kn.sw
    walk_at "wp"
    refine w_pick kn (kn.r 0 rfl) gc t1 (by omega) 0 rfl (by show 0 < 4; decide) (by show 4 ≤ 100000; decide) fun v H3 S3 hv kn hc t3 t3' => ?_
    obtain ⟨nb, rfl, nb0, nb1⟩ : ∃ z, v = V.int z ∧ 0 ≤ z ∧ z ≤ 4 := by
      simp only [List.mem_cons, List.not_mem_nil, or_false] at hv
      rcases hv with e | e | e | e <;> exact ⟨_, e, by decide, by decide⟩
    have kn := kn.drop3
    walk_at "wp"
    refine w_kLst kn rfl fun fo H4 kn => ?_
    have kn := kn.sw
    walk_at "wp"
    refine w_kTup kn rfl fun tp H5 kn => ?_
    walk_at "wp"
    have kn := kn.noT
    refine w_kLst kn rfl fun o H6 kn => ?_
    have kn := kn.sw
    walk_at "wp"
    refine w_pick kn (kn.r 0 rfl) gc t3 (by omega) 0 rfl (by show 0 < 3; decide) (by show 3 ≤ 100000; decide) fun v H7 S7 hv kn hc t7 t7' => ?_
    obtain ⟨rm, rfl, rm0, rm1⟩ : ∃ z, v = V.int z ∧ 1 ≤ z ∧ z ≤ 24 := by
      simp only [List.mem_cons, List.not_mem_nil, or_false] at hv
      rcases hv with e | e | e <;> exact ⟨_, e, by decide, by decide⟩
    have kn := kn.drop3
    walk_at "wp"
    refine w_draw kn hc gc t7 (by omega) (by omega) (by omega) fun k H8 S8 k0 k1 kn hc t8 t8' => ?_
    walk_at "wp"
    refine w_forR ⟨by omega, by omega⟩ (fun i σ' H' => ∃ (S' : SV) (as : List Addr) (xs : List Cell) (a5 a6 : Option V), σ' = [some (.ref st), some (.int m), some (.int nb), some (.ref fo), some (.int (1 + k)), a5, a6, none] ∧ i ≤ xs.length ∧ xs.length ≤ 2 * i ∧ (∀ x ∈ xs, x.Ok 1 m nb (1 + k)) ∧ 0 ≤ S'.t ∧ S'.t ≤ S.t + 10 + 200 * i ∧
        Kn H [st, g] [(c, .lst (cs.map V.int))] H' [(st, oSt g c S'), (g, oG S'), (fo, .lst (as.map V.ref))] [] (fun H => At H as (xs.map Cell.its)))
      ⟨S8, [], [], none, none, rfl, Nat.le_refl _, Nat.le_refl _, (fun p hp => by cases hp), t8, by omega, (kn.imp (At.mo _ _) fun _ => .nil).noT⟩ (fun i σ' H' hi hp => ?_) (fun σ' H' hp => ?_)
    · obtain ⟨S', as, xs, a5, a6, rfl, l1, l2, hx, t9, t9', kn⟩ := hp
      have hlen : xs.length ≤ 10000 := by omega
      have okc : ∀ y : Cell, y.Ok 1 m nb (1 + k) → ∀ x ∈ xs ++ [y], x.Ok 1 m nb (1 + k) := fun y hy x hm => by
        rcases List.mem_append.mp hm with hm | hm
        · exact hx x hm
        · have e : x = y := by simpa using hm
          rw [e]
          exact hy
      have lc : ∀ y : Cell, (xs ++ [y]).length = xs.length + 1 := fun y => by rw [List.length_append] <;> rfl
      walk_at "wp"
      refine w_draw kn (kn.r 0 rfl) gc t9 (by omega) (by decide) (by decide) fun way H9 S9 w0 w1 kn hc t10 t10' => ?_
      walk_at "wp"
      refine kIf_d (fun e => ?_) fun e0 => ?_
      · walk_at "wp"
        refine w_draw kn (kn.r 0 rfl) gc t10 (by omega) (by decide) (by decide) fun p H10 S10 p0 p1 kn hc t11 t11' => ?_
        walk_at "wp"
        refine w_kTup kn rfl fun a H11 kn => ?_
        walk_at "wp"
        refine w_pushC (c := .shw p 1) kn 2 rfl hlen (kn.t 0 rfl) fun H12 kn => ?_
        walk_at "wp"
        exact ⟨S10, _, _, _, _, rfl, by rw [lc]; omega, by rw [lc]; omega, okc (.shw p 1) ⟨p0, by omega, by decide, by decide⟩, t11, by omega, kn⟩
      walk_at "wp"
      refine kIf_d (fun e => ?_) fun e0 => ?_
      · walk_at "wp"
        refine w_draw kn (kn.r 0 rfl) gc t10 (by omega) (by omega) (by omega) fun p H10 S10 p0 p1 kn hc t11 t11' => ?_
        walk_at "wp"
        refine w_kTup kn rfl fun a H11 kn => ?_
        walk_at "wp"
        refine w_pushC (c := .turn p 1) kn 2 rfl hlen (kn.t 0 rfl) fun H12 kn => ?_
        walk_at "wp"
        exact ⟨S10, _, _, _, _, rfl, by rw [lc]; omega, by rw [lc]; omega, okc (.turn p 1) ⟨p0, p1, by decide, by decide⟩, t11, by omega, kn⟩
      walk_at "wp"
      refine kIf_d (fun e => ?_) fun e0 => ?_
      · walk_at "wp"
        refine w_draw kn (kn.r 0 rfl) gc t10 (by omega) (by omega) (by omega) fun p H10 S10 p0 p1 kn hc t11 t11' => ?_
        walk_at "wp"
        refine w_kTup kn rfl fun a H11 kn => ?_
        walk_at "wp"
        refine w_pushC (c := .goto p) kn 2 rfl hlen (kn.t 0 rfl) fun H12 kn => ?_
        walk_at "wp"
        exact ⟨S10, _, _, _, _, rfl, by rw [lc]; omega, by rw [lc]; omega, okc (.goto p) ⟨p0, p1⟩, t11, by omega, kn⟩
      walk_at "wp"
      refine kIf_d (fun e => ?_) fun e0 => ?_
      · walk_at "wp"
        refine w_kTup kn rfl fun a1 H10 kn => ?_
        walk_at "wp"
        refine w_kTup kn rfl fun a2 H11 kn => ?_
        walk_at "wp"
        refine w_draw kn (kn.r 0 rfl) gc t10 (by omega) (by decide) (by decide) fun p H10 S10 p0 p1 kn hc t11 t11' => ?_
        walk_at "wp"
        refine w_kTup kn rfl fun a3 H11 kn => ?_
        walk_at "wp"
        refine w_kLst kn rfl fun o H6 kn => ?_
        have kn := kn.sw
        walk_at "wp"
        refine w_pick kn (kn.r 0 rfl) gc t11 (by omega) 0 rfl (by show 0 < 3; decide) (by show 3 ≤ 100000; decide) fun v H12 S12 hv kn hc t12 t12' => ?_
        obtain ⟨a, y, rfl, hy, hok⟩ : ∃ (a : Addr) (y : Cell), v = .ref a ∧ H12 a = some (.tup y.its) ∧ y.Ok 1 m nb (1 + k) := by
          simp only [List.mem_cons, List.not_mem_nil, or_false] at hv
          rcases hv with e | e | e
          · exact ⟨_, .stop, e, kn.t 2 rfl, trivial⟩
          · exact ⟨_, .mark, e, kn.t 1 rfl, trivial⟩
          · exact ⟨_, .take p 1, e, kn.t 0 rfl, ⟨p0, by omega⟩, by decide, by decide⟩
        have kn := kn.drop3
        walk_at "wp"
        refine w_pushC (c := y) kn 2 rfl hlen hy fun H12 kn => ?_
        walk_at "wp"
        exact ⟨S12, _, _, _, _, rfl, by rw [lc]; omega, by rw [lc]; omega, okc y hok, t12, by omega, kn⟩
      walk_at "wp"
      refine kIf_d (fun e => ?_) fun e0 => ?_
      · walk_at "wp"
        refine w_draw kn (kn.r 0 rfl) gc t10 (by omega) (by decide) (by decide) fun p H10 S10 p0 p1 kn hc t11 t11' => ?_
        walk_at "wp"
        refine w_kTup kn rfl fun a H11 kn => ?_
        walk_at "wp"
        refine w_pushC (c := .ins 0 (.offer p)) kn 2 rfl hlen (kn.t 0 rfl) fun H12 kn => ?_
        have okc1 : ∀ x ∈ xs ++ [Cell.ins 0 (.offer p)], x.Ok 1 m nb (1 + k) := okc (.ins 0 (.offer p)) ⟨by decide, by decide, p0, by omega⟩
        walk_at "wp"
        refine w_draw kn (kn.r 0 rfl) gc t11 (by omega) (by decide) (by decide) fun p2 H10 S13 p20 p21 kn hc t13 t13' => ?_
        walk_at "wp"
        refine w_kTup kn rfl fun a1 H11 kn => ?_
        walk_at "wp"
        refine w_draw kn (kn.r 0 rfl) gc t13 (by omega) (by omega) (by omega) fun p3 H10 S14 p30 p31 kn hc t14 t14' => ?_
        walk_at "wp"
        refine w_kTup kn rfl fun a2 H11 kn => ?_
        walk_at "wp"
        refine w_kLst kn rfl fun o H6 kn => ?_
        have kn := kn.sw
        walk_at "wp"
        refine w_pick kn (kn.r 0 rfl) gc t14 (by omega) 0 rfl (by show 0 < 2; decide) (by show 2 ≤ 100000; decide) fun v H12 S12 hv kn hc t12 t12' => ?_
        obtain ⟨b, y, rfl, hy, hok⟩ : ∃ (a : Addr) (y : Cell), v = .ref a ∧ H12 a = some (.tup y.its) ∧ y.Ok 1 m nb (1 + k) := by
          simp only [List.mem_cons, List.not_mem_nil, or_false] at hv
          rcases hv with e | e
          · exact ⟨_, .shw p2 1, e, kn.t 1 rfl, p20, by omega, by decide, by decide⟩
          · exact ⟨_, .turn p3 1, e, kn.t 0 rfl, p30, p31, by decide, by decide⟩
        have kn := kn.drop3
        walk_at "wp"
        refine w_pushC (c := y) kn 2 rfl (by rw [lc]; omega) hy fun H12 kn => ?_
        walk_at "wp"
        refine ⟨S12, _, _, _, _, rfl, by rw [List.length_append, lc]; omega, by rw [List.length_append, lc]; show xs.length + 1 + 1 ≤ _; omega, fun x hm => ?_, t12, by omega, kn⟩
        rcases List.mem_append.mp hm with hm | hm
        · exact okc1 x hm
        · have e : x = y := by simpa using hm
          rw [e]
          exact hok
      · walk_at "wp"
        refine w_kTup kn rfl fun a1 H10 kn => ?_
        walk_at "wp"
        refine w_plain kn (kn.r 0 rfl) gc t10 (by omega) m0 m1 nb0 (by omega) fun a2 i2 H11 S11 hi2 kn hc t11 t11' => ?_
        have hle := i2.le
        refine w_catT kn (SqT.of (kn.t 1 rfl)) (SqT.of (kn.t 0 rfl)) (by rw [List.length_singleton]; omega) (by intro z; cases z) i2.ne fun a H12 kn => ?_
        walk_at "wp"
        refine w_pushC (c := .ins 0 i2) kn 2 rfl hlen (kn.t 0 rfl) fun H12 kn => ?_
        walk_at "wp"
        exact ⟨S11, _, _, _, _, rfl, by rw [lc]; omega, by rw [lc]; omega, okc (.ins 0 i2) ⟨by decide, by decide, hi2⟩, t11, by omega, kn⟩
    · obtain ⟨S', as, xs, a5, a6, rfl, l1, l2, hx, t9, t9', kn⟩ := hp
      walk_at "wp"
      refine w_kTup kn rfl fun va H9 kn => ?_
      walk_at "wp"
      refine w_tupOfL kn (SqL.of (kn.l 2 rfl)) fun ca H10 kn => ?_
      walk_at "wp"
      refine w_lcR ⟨nb0, by omega⟩ kn (fun D i H' => ∃ (S1 : SV) (ns : List Int), ns.length = i ∧ NumsOk m ns ∧ 0 ≤ S1.t ∧ S1.t ≤ S'.t + 2 * i ∧ Kn H [st, g] [(c, .lst (cs.map V.int))] H' [(st, oSt g c S1), (g, oG S1), (D, .lst (ns.map V.int)), (fo, .lst (as.map V.ref))] [(ca, as.map V.ref), (va, [.int 1])] (fun H => At H as (xs.map Cell.its)))
        (fun D H' kn => ⟨S', [], rfl, (fun n hn => by cases hn), t9, by omega, kn.sw⟩) (fun D i H' hi hp => ?_) (fun D H' hp => ?_)
      · obtain ⟨S1, ns, hl, hns, t1, t2, kn⟩ := hp
        walk_at "wp"
        refine w_number kn (kn.r 0 rfl) gc t1 (by omega) m0 m1 fun u H5 S5 u0 u1 kn hc t5 t5' => ?_
        refine w_kAcc kn 2 rfl (by rw [List.length_map]; omega) fun H6 kn => ?_
        rw [map_snoc] at kn
        exact ⟨S5, ns ++ [u], by rw [List.length_append, hl] <;> rfl, hns.snoc u0 u1, t5, by omega, kn⟩
      · obtain ⟨S1, ns, hl, hns, t1, t2, kn⟩ := hp
        walk_at "wp"
        refine w_tupOfL kn (SqL.of (kn.l 2 rfl)) fun ba H11 kn => ?_
        walk_at "wp"
        refine w_kTup kn rfl fun a H12 kn => ?_
        refine q a ⟨[1], m, xs, ns⟩ H12 S1 ⟨va, ca, ba, as, kn.t 0 rfl, kn.t 3 rfl, kn.t 2 rfl, kn.t 1 rfl, kn.pp⟩ ⟨votes1, ⟨m0, m1⟩, by show ns.length ≤ 600; omega, hns, ⟨by show 1 ≤ xs.length; omega, by show xs.length ≤ 4000; omega⟩, fun x hm => ?_⟩ rfl (by show xs.length ≤ 48; omega) kn.fr ⟨kn.l 0 rfl, kn.l 1 rfl, kn.r 0 rfl, gc, t1⟩ (by omega)
        have e := (hx x hm).big (n' := (xs.length : Int)) (by omega)
        have e2 : (ns.length : Int) = nb := by omega
        show x.Ok 1 m ns.length xs.length
        rw [e2]
        exact e
end
end Hue
set_option Elab.async false
set_option linter.all false
set_option maxRecDepth 100000
set_option maxHeartbeats 4000000
set_option autoImplicit false
namespace Hue
open PySem PySem.Spec PyProof.Rows L2
def N_law_sure_code : List Str := [("_law_state" : Str), ("_law_votes_here" : Str), ("_law_size_here" : Str), ("_law_hues" : Str), ("_law_bank" : Str), ("_law_cells" : Str), ("_law_heads" : Str), ("_law_ends" : Str), ("_law_kind" : Str), ("_law_goal" : Str), ("_law_steps" : Str), ("_law_at" : Str), ("_law_first" : Str), ("_law_turn" : Str), ("_law_spot" : Str)]
theorem sc_law_sure_code : FnScope N_law_sure_code [("_law_state" : Str), ("_law_votes_here" : Str), ("_law_size_here" : Str)] (defScope s_law_sure_code) := ⟨rfl, rfl, rfl, by decide +kernel, rfl, by decide +kernel, by decide +kernel⟩
/-! ### cells under work: some places still hold None -/
def Slots (ok : Cell → Prop) (pend : List Int) (vs : List V) (H : Hp) : Prop := ∀ (p : Nat) (v : V), vs[p]? = some v → (v = .non ∧ (p : Int) ∈ pend) ∨ ∃ a x, v = .ref a ∧ H a = some (.tup x.its) ∧ ok x
theorem Slots.mo (ok : Cell → Prop) (pend : List Int) (vs : List V) : Mono (Slots ok pend vs) := fun H H' t h p v e => by
  rcases h p v e with z | ⟨a, x, e1, e2, e3⟩
  · exact .inl z
  · exact .inr ⟨a, x, e1, t _ _ e2, e3⟩
theorem Slots.nil {ok : Cell → Prop} {H : Hp} : Slots ok [] [] H := fun p v e => by cases e
theorem Slots.imp {ok ok' : Cell → Prop} {pend : List Int} {vs : List V} {H : Hp} (h : Slots ok pend vs H) (i : ∀ x, ok x → ok' x) : Slots ok' pend vs H := fun p v e => by
  rcases h p v e with z | ⟨a, x, e1, e2, e3⟩
  · exact .inl z
  · exact .inr ⟨a, x, e1, e2, i x e3⟩
theorem Slots.app {ok : Cell → Prop} {pend : List Int} {vs : List V} {H : Hp} {bs : List Addr} {xs : List Cell} (h : Slots ok pend vs H) (hb : At H bs (xs.map Cell.its)) (hx : ∀ x ∈ xs, ok x) : Slots ok pend (vs ++ bs.map V.ref) H := fun p v e => by
  by_cases hp : p < vs.length
  · rw [List.getElem?_append_left hp] at e
    exact h p v e
  · rw [List.getElem?_append_right (by omega)] at e
    obtain ⟨a, ea, rfl⟩ := At.refs e
    obtain ⟨its, e1, e2⟩ := hb.get' ea
    rw [List.getElem?_map] at e1
    obtain ⟨x, e3, rfl⟩ := Option.map_eq_some_iff.mp e1
    exact .inr ⟨a, x, rfl, e2, hx x (List.mem_of_getElem? e3)⟩
theorem Slots.none {ok : Cell → Prop} {pend : List Int} {vs : List V} {H : Hp} (h : Slots ok pend vs H) : Slots ok (pend ++ [(vs.length : Int)]) (vs ++ [.non]) H := fun p v e => by
  by_cases hp : p < vs.length
  · rw [List.getElem?_append_left hp] at e
    rcases h p v e with ⟨z1, z2⟩ | z
    · exact .inl ⟨z1, List.mem_append_left _ z2⟩
    · exact .inr z
  · rw [List.getElem?_append_right (by omega)] at e
    have hl := (List.getElem?_eq_some_iff.mp e).1
    have e0 : p - vs.length = 0 := by
      have : p - vs.length < 1 := hl
      omega
    rw [e0] at e
    have e1 : V.non = v := Option.some.inj e
    have e2 : p = vs.length := by omega
    exact .inl ⟨e1.symm, by rw [e2]; simp⟩
theorem Slots.set {ok : Cell → Prop} {j : Int} {pend : List Int} {vs : List V} {H : Hp} {m : Nat} {a : Addr} {x : Cell} (h : Slots ok (j :: pend) vs H) (hj : j = (m : Int)) (ha : H a = some (.tup x.its)) (hx : ok x) : Slots ok pend (vs.set m (.ref a)) H := fun p v e => by
  by_cases hp : m = p
  · subst hp
    have hl : m < (vs.set m (.ref a)).length := (List.getElem?_eq_some_iff.mp e).1
    rw [List.length_set] at hl
    rw [List.getElem?_set_self hl] at e
    exact .inr ⟨a, x, (Option.some.inj e).symm, ha, hx⟩
  · rw [List.getElem?_set_ne hp] at e
    rcases h p v e with ⟨z1, z2⟩ | z
    · rcases List.mem_cons.mp z2 with e2 | z2
      · omega
      · exact .inl ⟨z1, z2⟩
    · exact .inr z
theorem Slots.done {ok : Cell → Prop} {H : Hp} : ∀ {vs : List V}, Slots ok [] vs H → ∃ (as : List Addr) (xs : List Cell), vs = as.map V.ref ∧ At H as (xs.map Cell.its) ∧ ∀ x ∈ xs, ok x
  | [], _ => ⟨[], [], rfl, .nil, fun x hx => by cases hx⟩
  | v :: vs, h => by
    obtain ⟨as, xs, e1, e2, e3⟩ := Slots.done (vs := vs) fun p u e => by
      rcases h (p + 1) u e with ⟨_, z⟩ | z
      · cases z
      · exact .inr z
    rcases h 0 v rfl with ⟨_, z⟩ | ⟨a, x, f1, f2, f3⟩
    · cases z
    · refine ⟨a :: as, x :: xs, ?_, ?_, fun y hy => ?_⟩
      · rw [f1, e1] <;> rfl
      · exact (At.one f2).app e2
      · rcases List.mem_cons.mp hy with z | z
        · rw [z]
          exact f3
        · exact e3 y z
/-- ends of blocks -/
structure EndB where
  at_ : Int
  kd : Str
  goal : Int
def EndB.its (e : EndB) : List V := [.int e.at_, .str e.kd, .int e.goal]
def rSure : V → V → V → Hp → VK → XK → Prop := fun x y z H Q _ => ∃ (st g c va : Addr) (cs : List Int) (S : SV) (m : Int), x = .ref st ∧ y = .ref va ∧ z = .int m ∧ LS H st g c cs S ∧ 2 ≤ m ∧ m ≤ 10000 ∧ H va = some (.tup [.int 1]) ∧ Gen1 H st g c cs S Q 100000000 20000
def rAny : V → V → Hp → VK → XK → Prop := fun x y H Q _ => ∃ (st g c va : Addr) (cs : List Int) (S : SV), x = .ref st ∧ y = .ref va ∧ LS H st g c cs S ∧ H va = some (.tup [.int 1]) ∧ Gen1 H st g c cs S Q 10000000 30000
theorem LS.kn3 {H : Hp} {st g c : Addr} {cs : List Int} {S : SV} (ls : LS H st g c cs S) {P : Hp → Prop} (m : Mono P) (p : P H) :
    Kn H [st, g] [(c, .lst (cs.map V.int))] H [(st, oSt g c S), (g, oG S)] [] P := by
  have k := ls.kn
  exact ⟨k.fr, k.ro, k.nd, k.nt, k.ats, k.own, k.ta, p, m⟩
/-- what is known while a sure code is made -/
def SW (va : Addr) (bs : List Addr) (ps : List (Str × Int)) (ends : List Addr) (es : List EndB) (ok : Cell → Prop) (pend : List Int) (vs : List V) (H : Hp) : Prop :=
  H va = some (.tup [.int 1]) ∧ At H bs (ps.map blkV) ∧ At H ends (es.map EndB.its) ∧ Slots ok pend vs H
theorem SW.mo (va : Addr) (bs : List Addr) (ps : List (Str × Int)) (ends : List Addr) (es : List EndB) (ok : Cell → Prop) (pend : List Int) (vs : List V) : Mono (SW va bs ps ends es ok pend vs) :=
  fun _ _ t h => ⟨t _ _ h.1, h.2.1.mono t, h.2.2.1.mono t, Slots.mo _ _ _ _ _ t h.2.2.2⟩
section
variable {H0 H : Hp} {M : List Addr} {R L : Obs} {T : Tps} {P : Hp → Prop} {st g c l : Addr} {cs : List Int} {S : SV} {n : Int} {Q : VK} {E : XK}
theorem w_blocks (kn : Kn H0 M R H ((st, oSt g c S) :: (g, oG S) :: L) T P) (hc : H c = some (.lst (cs.map V.int))) (gc : g ≠ c) (t0 : 0 ≤ S.t) (tb : S.t ≤ 1000000000) (n0 : 1 ≤ n) (n1 : n ≤ 10)
    (h : ∀ (r : Addr) (bs : List Addr) (ps : List (Str × Int)) (H' : Hp) (S' : SV), Kn H0 M R H' ((r, .lst (bs.map V.ref)) :: (st, oSt g c S') :: (g, oG S') :: L) T (fun H => P H ∧ At H bs (ps.map blkV)) → (ps.length : Int) = n → (∀ p ∈ ps, BlkOk n p) → H' c = some (.lst (cs.map V.int)) → 0 ≤ S'.t → S'.t ≤ S.t + 100 → Q (.ref r) H') : rBlocks (.ref st) (.int n) H Q E :=
  ⟨st, g, c, cs, S, n, rfl, rfl, ⟨kn.l 0 rfl, kn.l 1 rfl, hc, gc, t0⟩, tb, n0, n1, fun r bs ps H' S' h0 h1 hb hl hp f l t => h r bs ps H' S' ((kn.add (kn.drawn f l) rfl h0 h1 rfl).and (At.mo _ _) hb) hl hp l.c_ l.tl t⟩
theorem w_laid {as : List Addr} {is : List Ins} (kn : Kn H0 M R H ((st, oSt g c S) :: (g, oG S) :: L) T P) (hc : H c = some (.lst (cs.map V.int))) (gc : g ≠ c) (t0 : 0 ≤ S.t) (tb : S.t ≤ 1000000000) (j : Nat) (hj : L[j]? = some (l, .lst (as.map V.ref))) (ha : At H as (is.map Ins.its)) (hn : is.length ≤ 100) (hok : ∀ i ∈ is, i.its.all okV = true)
    (h : ∀ (r : Addr) (bs : List Addr) (H' : Hp) (S' : SV), Kn H0 M R H' ((r, .lst (bs.map V.ref)) :: (st, oSt g c S') :: (g, oG S') :: L) T (fun H => P H ∧ At H bs (is.map fun i => (Cell.ins 0 i).its)) → H' c = some (.lst (cs.map V.int)) → 0 ≤ S'.t → S'.t ≤ S.t + 1000 → Q (.ref r) H') : rLaid (.ref st) (.int 1) (.ref l) H Q E :=
  ⟨st, g, c, l, cs, S, as, is, rfl, rfl, rfl, ⟨kn.l 0 rfl, kn.l 1 rfl, hc, gc, t0⟩, tb, kn.l (j + 2) hj, kn.ne (j + 2) 1 hj rfl (by omega), ha, hn, hok, fun r bs H' S' h0 h1 hb f l t => h r bs H' S' ((kn.add (kn.drawn f l) rfl h0 h1 rfl).and (At.mo _ _) hb) l.c_ l.tl t⟩
end
section
variable {P : Program} {w : World} {K : PySem.W.Frag} {mg : Str → Option Value} {base : Heap}
theorem ok_law_sure_code (D : DefAt K mg "_law_sure_code" s_law_sure_code) (T : Txt K mg) (C_law_draw : Cal P w K mg base CX0 2 "_law_draw" [("_law_state" : Str), ("_law_room" : Str)] (Sp2 rDraw))
    (C_law_pick : Cal P w K mg base CX0 3 "_law_pick" [("_law_state" : Str), ("_law_some" : Str)] (Sp2 rPick)) (C_law_number : Cal P w K mg base CX0 4 "_law_number" [("_law_state" : Str), ("_law_size_here" : Str)] (Sp2 rNumber))
    (C_law_plain_step : Cal P w K mg base CX0 5 "_law_plain_step" [("_law_state" : Str), ("_law_size_here" : Str), ("_law_bank" : Str)] (Sp3 rPlain))
    (C_law_laid : Cal P w K mg base CX0 4 "_law_laid" [("_law_state" : Str), ("_law_hues" : Str), ("_law_steps" : Str)] (Sp3 rLaid))
    (C_law_code_blocks : Cal P w K mg base CX0 4 "_law_code_blocks" [("_law_state" : Str), ("_law_blocks" : Str)] (Sp2 rBlocks)) :
    Cal P w K mg base CX0 6 "_law_sure_code" [("_law_state" : Str), ("_law_votes_here" : Str), ("_law_size_here" : Str)] (Sp3 rSure) := by
  refine cal_of D sc_law_sure_code (fun _ _ _ _ _ _ us hl => match us, hl with | [_, _, _], _ => rfl) (fun vs H Q E h => ?_) (fun f cdv A outer s H vs Q E hr h => ⟨_, PSs.nox ((pss_cons (ps_asg (pe_tup (pa_cons (pe_callB (cr_lenK (K := K)) (by rfl) T.b_len (by decide +kernel) (pa_cons (pv 1) pa_nil)) (pa_cons (pe_cl C_law_pick hr (by decide) pass0 rfl (pa_cons (pv 0) (pa_cons (pe_lst (pa_cons pe_int (pa_cons pe_int (pa_cons pe_int (pa_cons pe_int pa_nil))))) pa_nil))) pa_nil))) (pg_tupK (K := K) (n := 2) rfl (pgs_cons (pg_name (i := 3) sc_law_sure_code.nd rfl (Or.inl rfl)) (pgs_cons (pg_name (i := 4) sc_law_sure_code.nd rfl (Or.inr rfl)) pgs_nil))))
      (pss_cons (ps_par3 (i := 5) (j := 6) (l := 7) (by rfl) sc_law_sure_code.nd rfl rfl rfl (by decide) (by decide) (by decide) rfl rfl rfl (pa_cons (pe_lst pa_nil) (pa_cons (pe_lst pa_nil) (pa_cons (pe_lst pa_nil) pa_nil))) (by rfl))
      (pss_cons (ps_for PassesOwn.never rfl (pi_listK (K := K) (pe_cl C_law_code_blocks hr (by decide) pass0 rfl (pa_cons (pv 0) (pa_cons (pe_cl C_law_pick hr (by decide) pass0 rfl (pa_cons (pv 0) (pa_cons (pe_lst (pa_cons pe_int (pa_cons pe_int (pa_cons pe_int (pa_cons pe_int pa_nil))))) pa_nil))) pa_nil)))) (pg_tupK (K := K) (n := 2) rfl (pgs_cons (pg_name (i := 8) sc_law_sure_code.nd rfl (Or.inl rfl)) (pgs_cons (pg_name (i := 9) sc_law_sure_code.nd rfl (Or.inl rfl)) pgs_nil))) (pss_cons (ps_expr (pe_bmK (K := K) PySem.F.plainAttrs_list PySem.F.slot_list_append PySem.F.type_list_append mt_append (pv 6) (pa_cons (pe_callB (cr_lenK (K := K)) (by rfl) T.b_len (by decide +kernel) (pa_cons (pv 5) pa_nil)) pa_nil)))
      (pss_cons (ps_setLc (i := 10) (own := [("_law_turn", 13)]) rfl sc_law_sure_code.nd rfl rfl (sw_true rfl rfl rfl (by decide +kernel)) (pi_range1 rfl T.b_range (pa_cons (pe_cl C_law_pick hr (by decide) pass0 rfl (pa_cons (pv 0) (pa_cons (pe_lst (pa_cons pe_int (pa_cons pe_int (pa_cons pe_int (pa_cons pe_int pa_nil))))) pa_nil))) pa_nil)) (blkOk_by (own := [("_law_turn", 13)]) (N := N_law_sure_code) (sc := defScope s_law_sure_code) (by decide +kernel)) (fun _ _ _ _ _ => (pg_name (i := 13) sc_law_sure_code.nd rfl (by first | exact Or.inl rfl | exact Or.inr rfl))) (fun _ _ _ _ _ => pts_nil) (fun _ _ _ _ _ => by exact (pe_cl C_law_plain_step hr (by decide) pass0 rfl (pa_cons (pv 0) (pa_cons (pv 2) (pa_cons (pv 4) pa_nil))))))
      (C8.pss_cut (ps_if (pt_cmpR (op_inK (K := K)) (pv 8) (pe_lst (pa_cons pe_str (pa_cons pe_str pa_nil))) (by rfl)) (pss_one (ps_expr (pe_bmK (K := K) PySem.F.plainAttrs_list PySem.F.slot_list_append PySem.F.type_list_append mt_append (pv 10) (pa_cons (pe_tup (pa_cons pe_str (pa_cons (pe_cl C_law_draw hr (by decide) pass0 rfl (pa_cons (pv 0) (pa_cons pe_int pa_nil))) pa_nil))) pa_nil)))) pss_nil)
      (pss_cons (ps_set (i := 5) sc_law_sure_code.nd rfl (Or.inl rfl) (pe_op op_cat (pv 5) (pe_cl C_law_laid hr (by decide) pass0 rfl (pa_cons (pv 0) (pa_cons (pv 3) (pa_cons (pv 10) pa_nil))))))
      (pss_cons (ps_expr (pe_bmK (K := K) PySem.F.plainAttrs_list PySem.F.slot_list_append PySem.F.type_list_append mt_append (pv 7) (pa_cons (pe_tup (pa_cons (pe_callB (cr_lenK (K := K)) (by rfl) T.b_len (by decide +kernel) (pa_cons (pv 5) pa_nil)) (pa_cons (pv 8) (pa_cons (pv 9) pa_nil)))) pa_nil)))
      (pss_one (ps_expr (pe_bmK (K := K) PySem.F.plainAttrs_list PySem.F.slot_list_append PySem.F.type_list_append mt_append (pv 5) (pa_cons pe_non pa_nil))))))))))
      (pss_cons (ps_for PassesOwn.never rfl (pi_listK (K := K) (pv 7)) (pg_tupK (K := K) (n := 3) rfl (pgs_cons (pg_name (i := 11) sc_law_sure_code.nd rfl (Or.inl rfl)) (pgs_cons (pg_name (i := 8) sc_law_sure_code.nd rfl (Or.inl rfl)) (pgs_cons (pg_name (i := 9) sc_law_sure_code.nd rfl (Or.inl rfl)) pgs_nil)))) (pss_one (ps_if (pt_cmpR op_eq (pv 8) pe_str (nomark _)) (pss_one (ps_asg (pe_tup (pa_cons pe_str (pa_cons (pe_cl C_law_pick hr (by decide) pass0 rfl (pa_cons (pv 0) (pa_cons (pe_lst (pa_cons pe_int (pa_cons pe_int (pa_cons pe_int pa_nil)))) pa_nil))) (pa_cons (pv 3) pa_nil)))) (pg_sub (pv 5) (pv 11) set_list))) (pss_one (ps_if (pt_cmpR op_eq (pv 8) pe_str (nomark _)) (pss_one (ps_asg (pe_tup (pa_cons pe_str (pa_cons (pe_cl C_law_draw hr (by decide) pass0 rfl (pa_cons (pv 0) (pa_cons pe_int pa_nil))) (pa_cons (pv 3) pa_nil)))) (pg_sub (pv 5) (pv 11) set_list))) (pss_one (ps_if (pt_cmpR op_eq (pv 8) pe_str (nomark _)) (pss_one (ps_asg (pe_tup (pa_cons pe_str (pa_cons (pe_ix (ix_listK (K := K)) (pv 6) (pv 9) (fun _ _ => rfl)) (pa_cons (pv 3) pa_nil)))) (pg_sub (pv 5) (pv 11) set_list))) (pss_one (ps_asg (pe_ifExp (pt_cmpR op_eq (pv 8) pe_str (nomark _)) (pe_tup (pa_cons pe_str (pa_cons (pe_ix (ix_listK (K := K)) (pv 6) (pv 9) (fun _ _ => rfl)) pa_nil))) (pe_tup (pa_cons pe_str pa_nil))) (pg_sub (pv 5) (pv 11) set_list))))))))))
      (pss_cons (ps_set (i := 12) sc_law_sure_code.nd rfl (Or.inl rfl) (pe_callTy (cr_tupK (K := K)) (by rfl) T.b_tuple (by decide +kernel) (pa_cons (pe_lc (own := [("_law_spot", 14)]) rfl sc_law_sure_code.nd (pi_range1 rfl T.b_range (pa_cons (pv 4) pa_nil)) (blkOk_by (own := [("_law_spot", 14)]) (N := N_law_sure_code) (sc := defScope s_law_sure_code) (by decide +kernel)) (fun _ _ _ _ _ => (pg_name (i := 14) sc_law_sure_code.nd rfl (by first | exact Or.inl rfl | exact Or.inr rfl))) (fun _ _ _ _ _ => pts_nil) (fun _ _ _ _ _ => by exact (pe_cl C_law_number hr (by decide) pass0 rfl (pa_cons (pv 0) (pa_cons (pv 2) pa_nil))))) pa_nil)))
      (pss_one (ps_ret (pe_tup (pa_cons (pv 1) (pa_cons (pv 2) (pa_cons (pe_callTy (cr_tupK (K := K)) (by rfl) T.b_tuple (by decide +kernel) (pa_cons (pv 5) pa_nil)) (pa_cons (pv 12) pa_nil))))))))))))), ?_⟩)
  · obtain ⟨a, b, c, rfl, _⟩ := h
    rfl
  · obtain ⟨x, y, z, rfl, st, g, c, va, cs, S, m, rfl, rfl, rfl, l, m0, m1, hva, hT, q⟩ := h
    have gc := l.gc
    have kn := l.kn3 (P := fun H => H va = some (.tup [.int 1])) (fun _ _ t h => t _ _ h) hva
    have hc := l.c_
    have kn := kn.tps (T' := [(va, [.int 1])]) (fun q hq => by
      have e : q = (va, [V.int 1]) := by simpa using hq
      rw [e]
      exact hva)
    walk_at "wp"
    refine w_kLst kn rfl fun o H2 kn => ?_
    have kn := kn.sw
    walk_at "wp"
    refine w_pick kn (kn.r 0 rfl) gc l.tl (by omega) 0 rfl (by show 0 < 4; decide) (by show 4 ≤ 100000; decide) fun v H3 S3 hv kn hc t3 t3' => ?_
    obtain ⟨nb, rfl, nb0, nb1⟩ : ∃ z, v = V.int z ∧ 0 ≤ z ∧ z ≤ 5 := by
      simp only [List.mem_cons, List.not_mem_nil, or_false] at hv
      rcases hv with e | e | e | e <;> exact ⟨_, e, by decide, by decide⟩
    have kn := kn.drop3
    walk_at "wp"
    refine w_kTup kn rfl fun tp H5 kn => ?_
    walk_at "wp"
    have kn := kn.noT
    refine w_kLst kn rfl fun ce H6 kn => ?_
    walk_at "wp"
    refine w_kLst kn rfl fun he H7 kn => ?_
    walk_at "wp"
    refine w_kLst kn rfl fun en H8 kn => ?_
    walk_at "wp"
    refine w_kLst kn rfl fun o H9 kn => ?_
    walk_at "wp"
    have kn := kn.pm [4, 5, 0, 3, 2, 1] (by decide)
    walk_at "pm"
    refine w_pick kn (kn.r 0 rfl) gc t3 (by omega) 0 rfl (by show 0 < 4; decide) (by show 4 ≤ 100000; decide) fun v H10 S10 hv kn hc t4 t4' => ?_
    obtain ⟨n, rfl, n0, n1⟩ : ∃ z, v = V.int z ∧ 1 ≤ z ∧ z ≤ 6 := by
      simp only [List.mem_cons, List.not_mem_nil, or_false] at hv
      rcases hv with e | e | e | e <;> exact ⟨_, e, by decide, by decide⟩
    have kn := kn.drop3
    walk_at "wp"
    refine w_blocks kn (kn.r 0 rfl) gc t4 (by omega) n0 (by omega) fun r bs ps H11 S11 kn hps hok hc t5 t5' => ?_
    have kn := kn.pm [1, 2, 0, 3, 4, 5] (by decide)
    walk_at "pm"
    have hbl : bs.length = ps.length := by
      have := kn.pp.2.len
      simpa using this
    refine w_forL (SqL.of (kn.l 2 rfl)) (fun i σ' H' => ∃ (S' : SV) (ce : Addr) (vs : List V) (hs : List Int) (es : List EndB) (ends : List Addr) (a8 a9 a10 : Option V),
        σ' = [some (.ref st), some (.ref va), some (.int m), some (.int 1), some (.int nb), some (.ref ce), some (.ref he), some (.ref en), a8, a9, a10, none, none, none, none] ∧
        hs.length = i ∧ vs.length ≤ 6 * i ∧ (∀ h ∈ hs, 0 ≤ h ∧ h < vs.length) ∧ es.length = i ∧ (∀ e ∈ es, 0 ≤ e.at_ ∧ e.at_ < vs.length ∧ BlkOk n (e.kd, e.goal)) ∧ 0 ≤ S'.t ∧ S'.t ≤ S11.t + 2000 * i ∧
        Kn H [st, g] [(c, .lst (cs.map V.int))] H' [(st, oSt g c S'), (g, oG S'), (r, .lst (bs.map V.ref)), (ce, .lst vs), (he, .lst (hs.map V.int)), (en, .lst (ends.map V.ref))] [] (SW va bs ps ends es (fun x => ∀ N, x.Ok 1 m nb N) (es.map EndB.at_) vs))
      ⟨S11, ce, [], [], [], [], none, none, none, rfl, rfl, Nat.le_refl _, (fun h hh => by cases hh), rfl, (fun h hh => by cases hh), t5, by omega, kn.imp (SW.mo _ _ _ _ _ _ _ _) fun h => ⟨h.1, h.2, .nil, .nil⟩⟩ (fun i σ' H' _ hp => ?_) (fun i x σ' H' hx hi hp => ?_) (fun σ' H' hp => ?_)
    · obtain ⟨_, _, _, _, _, _, _, _, _, _, _, _, _, _, _, _, _, kn⟩ := hp
      exact SqL.of (kn.l 2 rfl)
    · obtain ⟨S', ce, vs, hs, es, ends, a8, a9, a10, rfl, lh, lv, hhs, le, hes, t6, t6', kn⟩ := hp
      rw [List.length_map] at hi
      obtain ⟨b, eb, rfl⟩ := At.refs hx
      obtain ⟨its, e1, hb⟩ := kn.pp.2.1.get' eb
      rw [List.getElem?_map] at e1
      obtain ⟨p, ep, rfl⟩ := Option.map_eq_some_iff.mp e1
      have hpk := hok p (List.mem_of_getElem? ep)
      have hlv : vs.length ≤ 36 := by omega
      have hlen : ends.length = es.length := by
        have := kn.pp.2.2.1.len
        simpa using this
      have kn := kn.tps (T' := [(b, [.str p.1, .int p.2])]) (fun q hq => by
        have e : q = (b, [V.str p.1, V.int p.2]) := by simpa using hq
        rw [e]
        exact hb)
      walk_at "wp"
      have kn := kn.noT
      refine w_append kn 4 rfl (by rw [List.length_map]; omega) fun H12 kn => ?_
      walk_at "pm"
      rw [map_snoc] at kn
      walk_at "wp"
      refine w_kLst kn rfl fun o H13 kn => ?_
      walk_at "wp"
      refine w_pick kn.sw (kn.r 0 rfl) gc t6 (by omega) 0 rfl (by show 0 < 4; decide) (by show 4 ≤ 100000; decide) fun v H14 S14 hv kn hc t7 t7' => ?_
      obtain ⟨ns, rfl, ns0, ns1⟩ : ∃ z, v = V.int z ∧ 1 ≤ z ∧ z ≤ 4 := by
        simp only [List.mem_cons, List.not_mem_nil, or_false] at hv
        rcases hv with e | e | e | e <;> exact ⟨_, e, by decide, by decide⟩
      have kn := kn.drop3
      walk_at "wp"
      refine w_lcR ⟨by omega, by omega⟩ kn (fun D i H' => ∃ (S1 : SV) (as : List Addr) (is : List Ins), is.length = i ∧ (∀ y ∈ is, y.Ok m nb) ∧ 0 ≤ S1.t ∧ S1.t ≤ S14.t + 100 * i ∧
          Kn H [st, g] [(c, .lst (cs.map V.int))] H' [(st, oSt g c S1), (g, oG S1), (D, .lst (as.map V.ref)), (r, .lst (bs.map V.ref)), (ce, .lst vs), (he, .lst ((hs ++ [(vs.length : Int)]).map V.int)), (en, .lst (ends.map V.ref))] [] (fun H => SW va bs ps ends es (fun x => ∀ N, x.Ok 1 m nb N) (es.map EndB.at_) vs H ∧ At H as (is.map Ins.its)))
        (fun D H' kn => ⟨S14, [], [], rfl, (fun y hy => by cases hy), t7, by omega, kn.sw.and (At.mo _ _) .nil⟩) (fun D k H' hk hp => ?_) (fun D H' hp => ?_)
      · obtain ⟨S1, as, is, l1, l2, t8, t8', kn⟩ := hp
        have hla : as.length = is.length := by
          have := kn.pp.2.len
          simpa using this
        walk_at "wp"
        refine w_plain kn (kn.r 0 rfl) gc t8 (by omega) m0 m1 nb0 (by omega) fun a2 i2 H11 S15 hi2 kn hc t9 t9' => ?_
        refine w_kAcc kn 2 rfl (by rw [List.length_map]; omega) fun H6 kn => ?_
        walk_at "pm"
        have ha := kn.t 0 rfl
        refine ⟨S15, as ++ [a2], is ++ [i2], by rw [List.length_append, l1] <;> rfl, fun y hy => ?_, t9, by omega, ?_⟩
        · rcases List.mem_append.mp hy with hy | hy
          · exact l2 y hy
          · have e : y = i2 := by simpa using hy
            rw [e]
            exact hi2
        · rw [List.map_append]
          exact (kn.imp ((SW.mo _ _ _ _ _ _ _ _).and2 (At.mo _ _)) fun h => ⟨h.1, by rw [List.map_append]; exact h.2.app (.one ha)⟩).noT
      · obtain ⟨S1, as, is, l1, l2, t8, t8', kn⟩ := hp
        walk_at "wp"
        refine ⟨fun σ' H' => ∃ (S1 : SV) (as : List Addr) (is : List Ins), σ' = [some (.ref st), some (.ref va), some (.int m), some (.int 1), some (.int nb), some (.ref ce), some (.ref he), some (.ref en), some (.str p.1), some (.int p.2), some (.ref D), none, none, none, none] ∧
            is.length ≤ 5 ∧ (∀ y ∈ is, y.Ok m nb) ∧ 0 ≤ S1.t ∧ S1.t ≤ S14.t + 401 ∧
            Kn H [st, g] [(c, .lst (cs.map V.int))] H' [(st, oSt g c S1), (g, oG S1), (D, .lst (as.map V.ref)), (r, .lst (bs.map V.ref)), (ce, .lst vs), (he, .lst ((hs ++ [(vs.length : Int)]).map V.int)), (en, .lst (ends.map V.ref))] [] (fun H => SW va bs ps ends es (fun x => ∀ N, x.Ok 1 m nb N) (es.map EndB.at_) vs H ∧ At H as (is.map Ins.its)), ?_, fun σ' H' hm => ?_⟩
        · have hla : as.length = is.length := by
            have := kn.pp.2.len
            simpa using this
          walk_at "wp"
          refine w_kLst kn rfl fun o H13 kn => ?_
          walk_at "wp"
          refine w_in (.inl (SqL.of (kn.l 0 rfl))) rfl rfl rfl ?_
          walk_at "wp"
          have kn := kn.drop
          refine kIf_2 (fun _ => ?_) fun _ => ?_
          · walk_at "wp"
            refine w_draw kn (kn.r 0 rfl) gc t8 (by omega) (by decide) (by decide) fun d H15 S15 d0 d1 kn hc t9 t9' => ?_
            walk_at "wp"
            refine w_kTup kn rfl fun a2 H16 kn => ?_
            walk_at "wp"
            refine w_append kn 2 rfl (by rw [List.length_map]; omega) fun H17 kn => ?_
            walk_at "pm"
            walk_at "wp"
            have ha := kn.t 0 rfl
            refine ⟨S15, as ++ [a2], is ++ [.offer d], rfl, by rw [List.length_append]; show is.length + 1 ≤ 5; omega, fun y hy => ?_, t9, by omega, ?_⟩
            · rcases List.mem_append.mp hy with hy | hy
              · exact l2 y hy
              · have e : y = .offer d := by simpa using hy
                rw [e]
                exact ⟨d0, by omega⟩
            · rw [List.map_append]
              exact (kn.imp ((SW.mo _ _ _ _ _ _ _ _).and2 (At.mo _ _)) fun h => ⟨h.1, by rw [List.map_append]; exact h.2.app (.one ha)⟩).noT
          · walk_at "wp"
            exact ⟨S1, as, is, rfl, by omega, l2, t8, by omega, kn⟩
        · obtain ⟨S1, as, is, rfl, l1, l2, t8, t8', kn⟩ := hm
          walk_at "wp"
          refine w_laid kn (kn.r 0 rfl) gc t8 (by omega) 0 rfl kn.pp.2 (by omega) (fun y hy => Ins.okV (l2 y hy)) fun r2 bs2 H15 S15 kn hc t9 t9' => ?_
          have hl2 : bs2.length = is.length := by
            have := kn.pp.2.len
            simpa using this
          refine w_cat kn (kn.l 5 rfl) (kn.l 0 rfl) (by rw [List.length_map]; omega) fun c2 H16 kn => ?_
          have kn := kn.pm [2, 3, 5, 0, 7, 8] (by decide)
          walk_at "pm"
          have lv2 : (vs ++ bs2.map V.ref).length = vs.length + is.length := by rw [List.length_append, List.length_map, hl2]
          walk_at "wp"
          refine w_kTup kn rfl fun te H17 kn => ?_
          walk_at "wp"
          refine w_append kn 5 rfl (by rw [List.length_map]; omega) fun H18 kn => ?_
          walk_at "pm"
          walk_at "wp"
          refine w_append kn 3 rfl (by omega) fun H19 kn => ?_
          walk_at "pm"
          walk_at "wp"
          have hte := kn.t 0 rfl
          refine ⟨S15, c2, vs ++ bs2.map V.ref ++ [.non], hs ++ [(vs.length : Int)], es ++ [⟨((vs ++ bs2.map V.ref).length : Int), p.1, p.2⟩], ends ++ [te], _, _, _, rfl, by rw [List.length_append, lh] <;> rfl, ?_, fun h hh => ?_, by rw [List.length_append, le] <;> rfl, fun e hh => ?_, t9, by omega, ?_⟩
          · rw [List.length_append, lv2]
            show vs.length + is.length + 1 ≤ _
            omega
          · rw [List.length_append, lv2]
            show 0 ≤ h ∧ h < ((vs.length + is.length + 1 : Nat) : Int)
            rcases List.mem_append.mp hh with hh | hh
            · have := hhs h hh
              omega
            · have e : h = (vs.length : Int) := by simpa using hh
              omega
          · rw [List.length_append, lv2]
            show 0 ≤ e.at_ ∧ e.at_ < ((vs.length + is.length + 1 : Nat) : Int) ∧ _
            rcases List.mem_append.mp hh with hh | hh
            · have := hes e hh
              exact ⟨this.1, by omega, this.2.2⟩
            · have e2 : e = ⟨((vs ++ bs2.map V.ref).length : Int), p.1, p.2⟩ := by simpa using hh
              rw [e2]
              refine ⟨Int.natCast_nonneg _, ?_, hpk⟩
              show ((vs ++ bs2.map V.ref).length : Int) < _
              rw [lv2]
              omega
          · have kn := (kn.imp (SW.mo va bs ps (ends ++ [te]) (es ++ [⟨((vs ++ bs2.map V.ref).length : Int), p.1, p.2⟩]) (fun x => ∀ N, x.Ok 1 m nb N) ((es ++ [(⟨((vs ++ bs2.map V.ref).length : Int), p.1, p.2⟩ : EndB)]).map EndB.at_) (vs ++ bs2.map V.ref ++ [.non])) fun h => by
              obtain ⟨⟨⟨h1, h2, h3, h4⟩, h5⟩, h6⟩ := h
              refine ⟨h1, h2, ?_, ?_⟩
              · rw [List.map_append]
                exact h3.app (.one hte)
              · rw [List.map_append]
                refine Slots.none (h4.app (xs := is.map (Cell.ins 0)) (by rw [List.map_map]; exact h6) fun x hx N => ?_)
                obtain ⟨y, hy, rfl⟩ := List.mem_map.mp hx
                exact ⟨by decide, by decide, l2 y hy⟩).noT
            rw [List.map_append (l₁ := ends)]
            exact kn
    · obtain ⟨S', ce, vs, hs, es, ends, a8, a9, a10, rfl, lh, lv, hhs, le, hes, t6, t6', kn⟩ := hp
      walk_at "wp"
      have hN : ∃ N : Nat, vs.length = N := ⟨_, rfl⟩
      obtain ⟨N, hN⟩ := hN
      have hi : (bs.map V.ref).length = ps.length := by rw [List.length_map]; omega
      have kn := kn.pm [0, 1, 3, 4, 5] (by decide)
      walk_at "pm"
      have hlen : ends.length = es.length := by
        have := kn.pp.2.2.1.len
        simpa using this
      refine w_forL (SqL.of (kn.l 4 rfl)) (fun j σ' H' => ∃ (S1 : SV) (vs : List V) (a8 a9 a11 : Option V),
          σ' = [some (.ref st), some (.ref va), some (.int m), some (.int 1), some (.int nb), some (.ref ce), some (.ref he), some (.ref en), a8, a9, a10, a11, none, none, none] ∧
          vs.length = N ∧ 0 ≤ S1.t ∧ S1.t ≤ S'.t + j ∧
          Kn H [st, g] [(c, .lst (cs.map V.int))] H' [(st, oSt g c S1), (g, oG S1), (ce, .lst vs), (he, .lst (hs.map V.int)), (en, .lst (ends.map V.ref))] [] (SW va bs ps ends es (fun x => x.Ok 1 m nb N) ((es.drop j).map EndB.at_) vs))
        ⟨S', vs, a8, a9, none, rfl, hN, t6, by omega, kn.imp (SW.mo _ _ _ _ _ _ _ _) fun h => ⟨h.1, h.2.1, h.2.2.1, h.2.2.2.imp fun x hx => hx N⟩⟩ (fun i σ' H' _ hp => ?_) (fun j x σ' H' hx hj hp => ?_) (fun σ' H' hp => ?_)
      · obtain ⟨_, _, _, _, _, _, _, _, _, kn⟩ := hp
        exact SqL.of (kn.l 4 rfl)
      · obtain ⟨S1, vs, a8, a9, a11, rfl, hN2, t7, t7', kn⟩ := hp
        rw [List.length_map] at hj
        obtain ⟨b, eb, rfl⟩ := At.refs hx
        obtain ⟨its, e1, hb⟩ := kn.pp.2.2.1.get' eb
        rw [List.getElem?_map] at e1
        obtain ⟨e, ee, rfl⟩ := Option.map_eq_some_iff.mp e1
        obtain ⟨z1, z2, z3⟩ := hes e (List.mem_of_getElem? ee)
        obtain ⟨pos, kd, goal⟩ := e
        obtain ⟨mm, hmm⟩ := Int.eq_ofNat_of_zero_le z1
        have hmm : pos = (mm : Int) := hmm
        subst hmm
        have z2 : (mm : Int) < _ := z2
        have hml : mm < vs.length := by omega
        have kn := kn.tps (T' := [(b, [.int (mm : Int), .str kd, .int goal])]) (fun q hq => by
          have e : q = (b, [V.int (mm : Int), V.str kd, V.int goal]) := by simpa using hq
          rw [e]
          exact hb)
        have hd : es.drop j = ⟨(mm : Int), kd, goal⟩ :: es.drop (j + 1) := by
          have hjl := (List.getElem?_eq_some_iff.mp ee).1
          rw [List.drop_eq_getElem_cons hjl]
          rw [(List.getElem?_eq_some_iff.mp ee).2]
        have kn := kn.imp (SW.mo va bs ps ends es (fun x => x.Ok 1 m nb N) ((mm : Int) :: (es.drop (j + 1)).map EndB.at_) vs) (fun h => by
          rw [hd] at h
          exact h)
        have fin : ∀ (a : Addr) (x : Cell) (S2 : SV) (H4 : Hp) (T : Tps) (a8 a9 a11 : Option V), x.Ok 1 m nb N → 0 ≤ S2.t → S2.t ≤ S'.t + j + 1 → H4 a = some (.tup x.its) →
            Kn H [st, g] [(c, .lst (cs.map V.int))] H4 [(st, oSt g c S2), (g, oG S2), (ce, .lst vs), (he, .lst (hs.map V.int)), (en, .lst (ends.map V.ref))] T (SW va bs ps ends es (fun x => x.Ok 1 m nb N) ((mm : Int) :: (es.drop (j + 1)).map EndB.at_) vs) →
            rSetL (.ref ce) (.int (mm : Int)) (.ref a) H4 fun H5 => ∃ (S1 : SV) (vs : List V) (b8 b9 b11 : Option V),
              [some (V.ref st), some (.ref va), some (.int m), some (.int 1), some (.int nb), some (.ref ce), some (.ref he), some (.ref en), a8, a9, a10, a11, none, none, none] = [some (.ref st), some (.ref va), some (.int m), some (.int 1), some (.int nb), some (.ref ce), some (.ref he), some (.ref en), b8, b9, a10, b11, none, none, none] ∧
              vs.length = N ∧ 0 ≤ S1.t ∧ S1.t ≤ S'.t + (j + 1 : Nat) ∧
              Kn H [st, g] [(c, .lst (cs.map V.int))] H5 [(st, oSt g c S1), (g, oG S1), (ce, .lst vs), (he, .lst (hs.map V.int)), (en, .lst (ends.map V.ref))] [] (SW va bs ps ends es (fun x => x.Ok 1 m nb N) ((es.drop (j + 1)).map EndB.at_) vs) :=
          fun a x S2 H4 T a8 a9 a11 hok h0 h1 ha kn => by
            have kn := kn.tps (T' := [(a, x.its)]) (fun q hq => by
              have e : q = (a, x.its) := by simpa using hq
              rw [e]
              exact ha)
            refine w_setL kn 2 rfl (ixN_n hml) fun H5 kn => ?_
            walk_at "pm"
            have ha := kn.t 0 rfl
            exact ⟨S2, vs.set mm (.ref a), a8, a9, a11, rfl, by rw [List.length_set]; exact hN2, h0, by omega, (kn.imp (SW.mo va bs ps ends es (fun x => x.Ok 1 m nb N) ((es.drop (j + 1)).map EndB.at_) (vs.set mm (.ref a))) fun h => ⟨h.1, h.2.1, h.2.2.1, h.2.2.2.set rfl ha hok⟩).noT⟩
        have hg : ∃ gn : Nat, goal = gn ∧ gn < hs.length := by
          have g1 : 0 ≤ goal := z3.2.1
          have g2 : goal < n := z3.2.2
          obtain ⟨gn, rfl⟩ := Int.eq_ofNat_of_zero_le g1
          exact ⟨gn, rfl, by omega⟩
        obtain ⟨gn, rfl, hgn⟩ := hg
        have hgv := hhs _ (List.getElem_mem hgn)
        have hga : atI (hs.map V.int) (gn : Int) = some (.int hs[gn]) := atI_nat (by rw [List.getElem?_map, List.getElem?_eq_getElem hgn] <;> rfl)
        have hkd : kd ∈ kindsL := z3.1
        unfold kindsL at hkd
        simp only [List.mem_cons, List.not_mem_nil, or_false] at hkd
        rcases hkd with rfl | rfl | rfl | rfl | rfl
        · walk_at "wp"
          refine w_kLst kn rfl fun o H13 kn => ?_
          have kn := kn.sw
          walk_at "wp"
          refine w_pick kn (kn.r 0 rfl) gc t7 (by omega) 0 rfl (by show 0 < 3; decide) (by show 3 ≤ 100000; decide) fun v H14 S14 hv kn hc t8 t8' => ?_
          obtain ⟨ns, rfl, ns0, ns1⟩ : ∃ z, v = V.int z ∧ 0 ≤ z ∧ z ≤ 5 := by
            simp only [List.mem_cons, List.not_mem_nil, or_false] at hv
            rcases hv with e | e | e <;> exact ⟨_, e, by decide, by decide⟩
          have kn := kn.drop3
          walk_at "wp"
          refine w_kTup kn rfl fun a H15 kn => ?_
          walk_at "wp"
          exact fin a (.shw ns 1) S14 H15 _ _ _ _ ⟨ns0, ns1, by decide, by decide⟩ t8 (by omega) (kn.t 0 rfl) kn
        · walk_at "wp"
          refine w_ixL (SqL.of (kn.l 3 rfl)) hga ?_
          walk_at "wp"
          refine w_kTup kn rfl fun a H15 kn => ?_
          walk_at "wp"
          exact fin a (.turn hs[gn] 1) S1 H15 _ _ _ _ ⟨hgv.1, by omega, by decide, by decide⟩ t7 (by omega) (kn.t 0 rfl) kn
        · walk_at "wp"
          refine w_draw kn (kn.r 0 rfl) gc t7 (by omega) (by decide) (by decide) fun d H14 S14 d0 d1 kn hc t8 t8' => ?_
          walk_at "wp"
          refine w_kTup kn rfl fun a H15 kn => ?_
          walk_at "wp"
          exact fin a (.take d 1) S14 H15 _ _ _ _ ⟨⟨d0, by omega⟩, by decide, by decide⟩ t8 (by omega) (kn.t 0 rfl) kn
        · walk_at "wp"
          refine w_ixL (SqL.of (kn.l 3 rfl)) hga ?_
          walk_at "wp"
          refine w_kTup kn rfl fun a H15 kn => ?_
          walk_at "wp"
          exact fin a (.goto hs[gn]) S1 H15 _ _ _ _ ⟨hgv.1, by omega⟩ t7 (by omega) (kn.t 0 rfl) kn
        · walk_at "wp"
          refine w_kTup kn rfl fun a H15 kn => ?_
          walk_at "wp"
          exact fin a .stop S1 H15 _ _ _ _ trivial t7 (by omega) (kn.t 0 rfl) kn
      · obtain ⟨S1, vs, a8, a9, a11, rfl, hN2, t7, t7', kn⟩ := hp
        rw [List.length_map, hlen] at kn t7'
        walk_at "wp"
        refine w_lcR ⟨nb0, by omega⟩ kn (fun D i H' => ∃ (S2 : SV) (ns : List Int), ns.length = i ∧ NumsOk m ns ∧ 0 ≤ S2.t ∧ S2.t ≤ S1.t + 2 * i ∧ Kn H [st, g] [(c, .lst (cs.map V.int))] H' [(st, oSt g c S2), (g, oG S2), (D, .lst (ns.map V.int)), (ce, .lst vs), (he, .lst (hs.map V.int)), (en, .lst (ends.map V.ref))] [] (SW va bs ps ends es (fun x => x.Ok 1 m nb N) ((es.drop es.length).map EndB.at_) vs))
          (fun D H' kn => ⟨S1, [], rfl, (fun n hn => by cases hn), t7, by omega, kn.sw⟩) (fun D i H' hi hp => ?_) (fun D H' hp => ?_)
        · obtain ⟨S2, ns, hl, hns, t1, t2, kn⟩ := hp
          walk_at "wp"
          refine w_number kn (kn.r 0 rfl) gc t1 (by omega) m0 m1 fun u H5 S5 u0 u1 kn hc t5 t5' => ?_
          refine w_kAcc kn 2 rfl (by rw [List.length_map]; omega) fun H6 kn => ?_
          rw [map_snoc] at kn
          exact ⟨S5, ns ++ [u], by rw [List.length_append, hl] <;> rfl, hns.snoc u0 u1, t5, by omega, kn⟩
        · obtain ⟨S2, ns, hl, hns, t1, t2, kn⟩ := hp
          walk_at "wp"
          refine w_tupOfL kn (SqL.of (kn.l 2 rfl)) fun ba H11 kn => ?_
          walk_at "wp"
          refine w_tupOfL kn (SqL.of (kn.l 3 rfl)) fun ca H12 kn => ?_
          walk_at "wp"
          refine w_kTup kn rfl fun a H13 kn => ?_
          have hsl := kn.pp.2.2.2
          rw [List.drop_length] at hsl
          obtain ⟨as, xs, e1, e2, e3⟩ := hsl.done
          have exl : as.length = xs.length := by
            have := e2.len
            simpa using this
          have evl : vs.length = as.length := by rw [e1, List.length_map]
          refine q a ⟨[1], m, xs, ns⟩ H13 S2 ⟨va, ca, ba, as, kn.t 0 rfl, kn.pp.1, by rw [← e1]; exact kn.t 1 rfl, kn.t 2 rfl, e2⟩ ⟨votes1, ⟨m0, m1⟩, by show ns.length ≤ 600; omega, hns, ⟨?_, by show xs.length ≤ 4000; omega⟩, fun x hm => ?_⟩ rfl (by show xs.length ≤ 48; omega) kn.fr ⟨kn.l 0 rfl, kn.l 1 rfl, kn.r 0 rfl, gc, t1⟩ (by omega)
          · show 1 ≤ xs.length
            have h0 : 0 < es.length := by omega
            obtain ⟨z1, z2, _⟩ := hes _ (List.getElem_mem h0)
            omega
          · have e := e3 x hm
            have e4 : (ns.length : Int) = nb := by omega
            have e5 : xs.length = N := by omega
            show x.Ok 1 m ns.length xs.length
            rw [e4, e5]
            exact e
end
end Hue
set_option Elab.async false
set_option linter.all false
set_option maxRecDepth 100000
set_option maxHeartbeats 4000000
set_option autoImplicit false
namespace Hue
open PySem PySem.Spec PyProof.Rows L2
def N_law_any_code : List Str := [("_law_state" : Str), ("_law_votes_here" : Str), ("_law_code" : Str), ("_law_cells" : Str), ("_law_turn" : Str), ("_law_at" : Str)]
theorem sc_law_any_code : FnScope N_law_any_code [("_law_state" : Str), ("_law_votes_here" : Str)] (defScope s_law_any_code) := ⟨rfl, rfl, rfl, by decide +kernel, rfl, by decide +kernel, by decide +kernel⟩
theorem At.set {H : Hp} : ∀ {as : List Addr} {xs : List Cell} {j : Nat} {a : Addr} {x : Cell}, At H as (xs.map Cell.its) → H a = some (.tup x.its) → At H (as.set j a) ((xs.set j x).map Cell.its)
  | [], [], _, _, _, _, _ => rfl
  | [], _ :: _, _, _, _, h, _ => by cases h
  | _ :: _, [], _, _, _, h, _ => by cases h
  | a0 :: as, x0 :: xs, 0, a, x, h, ha => by
    have h' : H a0 :: as.map H = some (HO.tup x0.its) :: (xs.map Cell.its).map (fun xs => some (HO.tup xs)) := h
    injection h' with h1 h2
    show H a :: as.map H = some (HO.tup x.its) :: (xs.map Cell.its).map (fun xs => some (HO.tup xs))
    rw [ha, h2]
  | a0 :: as, x0 :: xs, j + 1, a, x, h, ha => by
    have h' : H a0 :: as.map H = some (HO.tup x0.its) :: (xs.map Cell.its).map (fun xs => some (HO.tup xs)) := h
    injection h' with h1 h2
    show H a0 :: (as.set j a).map H = some (HO.tup x0.its) :: ((xs.set j x).map Cell.its).map (fun xs => some (HO.tup xs))
    rw [h1, At.set (as := as) (xs := xs) (j := j) h2 ha]
section
variable {H0 H : Hp} {M : List Addr} {R L : Obs} {T : Tps} {P : Hp → Prop} {st g c l : Addr} {cs : List Int} {S : SV} {Q : VK} {bnd top : Int}
theorem w_gen (kn : Kn H0 M R H ((st, oSt g c S) :: (g, oG S) :: L) T P) (hc : H c = some (.lst (cs.map V.int))) (gc : g ≠ c) (t0 : 0 ≤ S.t) (tb : S.t ≤ bnd)
    (h : ∀ (a : Addr) (C : Code) (H' : Hp) (S' : SV), Kn H0 M R H' ((st, oSt g c S') :: (g, oG S') :: L) T (fun H => P H ∧ IsCode H a C) → C.Ok → C.votes = [1] → C.cells.length ≤ 48 → H' c = some (.lst (cs.map V.int)) → 0 ≤ S'.t → S'.t ≤ S.t + top → Q (.ref a) H') : Gen1 H st g c cs S Q bnd top :=
  ⟨tb, fun a C H' S' hC hk hv hl f l t => h a C H' S' ((kn.drawn f l).and (IsCode.mo _ _) hC) hk hv hl l.c_ l.tl t⟩
end
section
variable {P : Program} {w : World} {K : PySem.W.Frag} {mg : Str → Option Value} {base : Heap}
theorem ok_law_any_code (D : DefAt K mg "_law_any_code" s_law_any_code) (T : Txt K mg) (C_law_draw : Cal P w K mg base CX0 2 "_law_draw" [("_law_state" : Str), ("_law_room" : Str)] (Sp2 rDraw))
    (C_law_size : Cal P w K mg base CX0 4 "_law_size" [("_law_state" : Str)] (Sp1 rSize)) (C_law_plain_step : Cal P w K mg base CX0 5 "_law_plain_step" [("_law_state" : Str), ("_law_size_here" : Str), ("_law_bank" : Str)] (Sp3 rPlain))
    (C_law_sure_code : Cal P w K mg base CX0 6 "_law_sure_code" [("_law_state" : Str), ("_law_votes_here" : Str), ("_law_size_here" : Str)] (Sp3 rSure)) :
    Cal P w K mg base CX0 7 "_law_any_code" [("_law_state" : Str), ("_law_votes_here" : Str)] (Sp2 rAny) := by
  refine cal_of D sc_law_any_code (fun _ _ _ _ _ _ us hl => match us, hl with | [_, _], _ => rfl) (fun vs H Q E h => ?_) (fun f cdv A outer s H vs Q E hr h => ⟨_, PSs.nox ((pss_cons (ps_set (i := 2) sc_law_any_code.nd rfl (Or.inl rfl) (pe_cl C_law_sure_code hr (by decide) pass0 rfl (pa_cons (pv 0) (pa_cons (pv 1) (pa_cons (pe_cl C_law_size hr (by decide) pass0 rfl (pa_cons (pv 0) pa_nil)) pa_nil)))))
      (pss_cons (ps_if (pt_cmpR op_gt (pe_cl C_law_draw hr (by decide) pass0 rfl (pa_cons (pv 0) (pa_cons pe_int pa_nil))) pe_int (nomark _)) (pss_one (ps_ret (pv 2))) pss_nil)
      (pss_cons (ps_set (i := 3) sc_law_any_code.nd rfl (Or.inl rfl) (pe_callTy (cr_lstK (K := K)) (by rfl) T.b_list (by decide +kernel) (pa_cons (pe_ix (ix_tupK (K := K)) (pv 2) pe_int (fun _ _ => rfl)) pa_nil)))
      (pss_cons (ps_for PassesOwn.never rfl (pi_range1 rfl T.b_range (pa_cons (pe_op op_add pe_int (pe_cl C_law_draw hr (by decide) pass0 rfl (pa_cons (pv 0) (pa_cons pe_int pa_nil)))) pa_nil)) (pg_name (i := 4) sc_law_any_code.nd rfl (Or.inl rfl)) (pss_cons (ps_set (i := 5) sc_law_any_code.nd rfl (Or.inl rfl) (pe_cl C_law_draw hr (by decide) pass0 rfl (pa_cons (pv 0) (pa_cons (pe_callB (cr_lenK (K := K)) (by rfl) T.b_len (by decide +kernel) (pa_cons (pv 3) pa_nil)) pa_nil))))
      (pss_one (ps_if (pt_val (pe_callB (cr_isiK (K := K)) (by rfl) T.b_isinstance (by decide +kernel) (pa_cons (pe_ix (ix_tupK (K := K)) (pe_ix (ix_listK (K := K)) (pv 3) (pv 5) (fun _ _ => rfl)) pe_int (fun _ _ => rfl)) (pa_cons (pe_bltn (v := .ty "int") (by rfl) T.b_int (by decide +kernel) rfl) pa_nil)))) (pss_one (ps_asg (pe_op (op_catAK (K := K)) (pe_tup (pa_cons (pe_ix (ix_tupK (K := K)) (pe_ix (ix_listK (K := K)) (pv 3) (pv 5) (fun _ _ => rfl)) pe_int (fun _ _ => rfl)) pa_nil)) (pe_cl C_law_plain_step hr (by decide) pass0 rfl (pa_cons (pv 0) (pa_cons (pe_ix (ix_tupK (K := K)) (pv 2) pe_int (fun _ _ => rfl)) (pa_cons (pe_callB (cr_lenK (K := K)) (by rfl) T.b_len (by decide +kernel) (pa_cons (pe_ix (ix_tupK (K := K)) (pv 2) pe_int (fun _ _ => rfl)) pa_nil)) pa_nil))))) (pg_sub (pv 3) (pv 5) set_list))) pss_nil))))
      (pss_one (ps_ret (pe_tup (pa_cons (pv 1) (pa_cons (pe_ix (ix_tupK (K := K)) (pv 2) pe_int (fun _ _ => rfl)) (pa_cons (pe_callTy (cr_tupK (K := K)) (by rfl) T.b_tuple (by decide +kernel) (pa_cons (pv 3) pa_nil)) (pa_cons (pe_ix (ix_tupK (K := K)) (pv 2) pe_int (fun _ _ => rfl)) pa_nil)))))))))))), ?_⟩)
  · obtain ⟨a, b, rfl, _⟩ := h
    rfl
  · obtain ⟨x, y, rfl, st, g, c, va, cs, S, rfl, rfl, l, hva, hT, q⟩ := h
    have gc := l.gc
    have kn := l.kn3 (P := fun H => H va = some (.tup [.int 1])) (fun _ _ t h => t _ _ h) hva
    have hc := l.c_
    walk_at "wp"
    refine w_size kn hc gc l.tl (by omega) fun m H1 S1 m0 m1 kn hc t1 t1' => ?_
    walk_at "wp"
    refine ⟨st, g, c, va, cs, S1, m, rfl, rfl, rfl, ⟨kn.l 0 rfl, kn.l 1 rfl, hc, gc, t1⟩, m0, m1, kn.pp, w_gen kn hc gc t1 (by omega) fun a C H2 S2 kn hok hv hl hc t2 t2' => ?_⟩
    walk_at "wp"
    refine w_draw kn (kn.r 0 rfl) gc t2 (by omega) (by decide) (by decide) fun d H3 S3 d0 d1 kn hc t3 t3' => ?_
    walk_at "wp"
    refine kIf_d (fun _ => ?_) fun _ => ?_
    · walk_at "wp"
      exact q a C H3 S3 kn.pp.2 hok hv hl kn.fr ⟨kn.l 0 rfl, kn.l 1 rfl, kn.r 0 rfl, gc, t3⟩ (by omega)
    · obtain ⟨va2, ca, ba, as0, hC⟩ := kn.pp.2
      have kn := kn.tps (T' := [(a, [.ref va2, .int C.size, .ref ca, .ref ba]), (ca, as0.map V.ref), (ba, C.bank.map V.int)]) (fun q hq => by
        simp only [List.mem_cons, List.not_mem_nil, or_false] at hq
        rcases hq with e | e | e <;> rw [e]
        · exact hC.top
        · exact hC.ct
        · exact hC.bt)
      have kn := kn.imp (S := fun H => H va = some (.tup [.int 1]) ∧ CodeAt H a C va2 ca ba as0) (fun _ _ t h => ⟨t _ _ h.1, h.2.mono t⟩) fun h => ⟨h.1, hC⟩
      have la : as0.length = C.cells.length := Code.len hC
      have hbk : (C.bank.length : Int) ≤ 600 := by
        have := hok.b
        omega
      have hsz := hok.s
      walk_at "wp"
      refine w_lstOf kn (.inr (SqT.of (kn.t 1 rfl))) fun fo H4 kn => ?_
      have kn := kn.sw
      walk_at "wp"
      refine w_draw kn (kn.r 0 rfl) gc t3 (by omega) (by decide) (by decide) fun d H5 S5 d0 d1 kn hc t4 t4' => ?_
      walk_at "wp"
      refine w_forR ⟨by omega, by omega⟩ (fun i σ' H' => ∃ (S' : SV) (as : List Addr) (xs : List Cell) (a4 a5 : Option V), σ' = [some (.ref st), some (.ref va), some (.ref a), some (.ref fo), a4, a5] ∧ xs.length = C.cells.length ∧
          (∀ x ∈ xs, x.Ok 1 C.size C.bank.length C.cells.length) ∧ 0 ≤ S'.t ∧ S'.t ≤ S5.t + 200 * i ∧
          Kn H [st, g] [(c, .lst (cs.map V.int))] H' [(st, oSt g c S'), (g, oG S'), (fo, .lst (as.map V.ref))] [] (fun H => (H va = some (.tup [.int 1]) ∧ CodeAt H a C va2 ca ba as0) ∧ At H as (xs.map Cell.its)))
        ⟨S5, as0, C.cells, none, none, rfl, rfl, (fun x hx => by
          have := hok.cn x hx
          rw [hv] at this
          exact this), t4, by omega, (kn.imp (S := fun H => (H va = some (.tup [.int 1]) ∧ CodeAt H a C va2 ca ba as0) ∧ At H as0 (C.cells.map Cell.its)) (fun _ _ t h => ⟨⟨t _ _ h.1.1, h.1.2.mono t⟩, h.2.mono t⟩) fun h => ⟨h, h.2.cs⟩).noT⟩ (fun i σ' H' hi hp => ?_) (fun σ' H' hp => ?_)
      · obtain ⟨S', as, xs, a4, a5, rfl, lx, hx, t5, t5', kn⟩ := hp
        have hla : as.length = xs.length := by
          have := kn.pp.2.len
          simpa using this
        have c1 := hok.c.1
        walk_at "wp"
        rw [List.length_map, hla]
        refine w_draw kn (kn.r 0 rfl) gc t5 (by omega) (by omega) (by omega) fun k H6 S6 k0 k1 kn hc t6 t6' => ?_
        obtain ⟨j, rfl⟩ := Int.eq_ofNat_of_zero_le k0
        have hj : j < xs.length := by omega
        have hj2 : j < as.length := by omega
        have e1 : as[j]? = some as[j] := List.getElem?_eq_getElem hj2
        have ex : xs[j]? = some xs[j] := List.getElem?_eq_getElem hj
        obtain ⟨its, e2, ha⟩ := kn.pp.2.get' e1
        rw [List.getElem?_map, ex] at e2
        have e2 : its = xs[j].its := (Option.some.inj e2).symm
        have hxj := hx _ (List.getElem_mem hj)
        generalize hy : xs[j] = y at e2 ex hxj
        generalize hb : as[j] = b at e1 ha
        subst e2
        have hat : atI (as.map V.ref) (j : Int) = some (.ref b) := atI_nat (by rw [List.getElem?_map, e1] <;> rfl)
        walk_at "wp"
        refine w_ixL (SqL.of (kn.l 2 rfl)) hat ?_
        walk_at "wp"
        have keep : ∀ S2 : SV, ∀ H7 : Hp, 0 ≤ S2.t → S2.t ≤ S6.t → Kn H [st, g] [(c, .lst (cs.map V.int))] H7 [(st, oSt g c S2), (g, oG S2), (fo, .lst (as.map V.ref))] [] (fun H => (H va = some (.tup [.int 1]) ∧ CodeAt H a C va2 ca ba as0) ∧ At H as (xs.map Cell.its)) → ∀ a4 a5, ∃ (S' : SV) (as : List Addr) (xs : List Cell) (b4 b5 : Option V), [some (V.ref st), some (.ref va), some (.ref a), some (.ref fo), a4, a5] = [some (.ref st), some (.ref va), some (.ref a), some (.ref fo), b4, b5] ∧ xs.length = C.cells.length ∧
          (∀ x ∈ xs, x.Ok 1 C.size C.bank.length C.cells.length) ∧ 0 ≤ S'.t ∧ S'.t ≤ S5.t + 200 * (i + 1 : Nat) ∧
          Kn H [st, g] [(c, .lst (cs.map V.int))] H7 [(st, oSt g c S'), (g, oG S'), (fo, .lst (as.map V.ref))] [] (fun H => (H va = some (.tup [.int 1]) ∧ CodeAt H a C va2 ca ba as0) ∧ At H as (xs.map Cell.its)) :=
          fun S2 H7 h0 h1 kn a4 a5 => ⟨S2, as, xs, a4, a5, rfl, lx, hx, h0, by omega, kn⟩
        cases y with
        | ins h ii =>
          have kn := kn.tps (T' := [(b, .int h :: ii.its), (a, [.ref va2, .int C.size, .ref ca, .ref ba]), (ba, C.bank.map V.int)]) (fun q hq => by
            have hC := kn.pp.1.2
            simp only [List.mem_cons, List.not_mem_nil, or_false] at hq
            rcases hq with e | e | e <;> rw [e]
            · exact ha
            · exact hC.top
            · exact hC.bt)
          refine w_ixT (SqT.of (kn.t 0 rfl)) atI_0 ?_
          walk_at "wp"
          refine w_ixL (SqL.of (kn.l 2 rfl)) hat ?_
          walk_at "wp"
          refine w_ixT (SqT.of (kn.t 0 rfl)) atI_0 ?_
          walk_at "wp"
          refine w_kTup kn rfl fun tp H7 kn => ?_
          walk_at "wp"
          rw [List.length_map]
          refine w_plain kn (kn.r 0 rfl) gc t6 (by omega) hsz.1 hsz.2 (Int.natCast_nonneg _) (by omega) fun a2 i2 H11 S11 hi2 kn hc t7 t7' => ?_
          have hle := i2.le
          refine w_catT kn (SqT.of (kn.t 1 rfl)) (SqT.of (kn.t 0 rfl)) (by rw [List.length_singleton]; omega) (by intro z; cases z) i2.ne fun a3 H12 kn => ?_
          walk_at "wp"
          have kn := kn.tps (T' := [(a3, (Cell.ins h i2).its)]) (fun q hq => by
            have e : q = (a3, (Cell.ins h i2).its) := by simpa using hq
            rw [e]
            exact kn.t 0 rfl)
          refine w_setL kn 2 rfl (ixN_n (by rw [List.length_map]; exact hj2)) fun H13 kn => ?_
          walk_at "pm"
          have ha3 := kn.t 0 rfl
          refine ⟨S11, as.set j a3, xs.set j (.ins h i2), _, _, rfl, by rw [List.length_set]; exact lx, fun z hz => ?_, t7, by omega, ?_⟩
          · rcases List.mem_or_eq_of_mem_set hz with hz | hz
            · exact hx z hz
            · rw [hz]
              exact ⟨hxj.1, hxj.2.1, hi2⟩
          · have kn := (kn.imp (S := fun H => (H va = some (.tup [.int 1]) ∧ CodeAt H a C va2 ca ba as0) ∧ At H (as.set j a3) ((xs.set j (.ins h i2)).map Cell.its)) (fun _ _ t h => ⟨⟨t _ _ h.1.1, h.1.2.mono t⟩, h.2.mono t⟩) fun h => ⟨h.1, At.set h.2 ha3⟩).noT
            rw [List.map_set]
            exact kn
        | shw p w =>
          have kn := kn.tps (T' := [(b, [.str "show", .int p, .int w])]) (fun q hq => by
            have e : q = (b, [V.str "show", V.int p, V.int w]) := by simpa using hq
            rw [e]
            exact ha)
          walk_at "wp"
          exact keep S6 H6 t6 (Int.le_refl _) kn.noT _ _
        | turn p w =>
          have kn := kn.tps (T' := [(b, [.str "turn", .int p, .int w])]) (fun q hq => by
            have e : q = (b, [V.str "turn", V.int p, V.int w]) := by simpa using hq
            rw [e]
            exact ha)
          walk_at "wp"
          exact keep S6 H6 t6 (Int.le_refl _) kn.noT _ _
        | take p w =>
          have kn := kn.tps (T' := [(b, [.str "take", .int p, .int w])]) (fun q hq => by
            have e : q = (b, [V.str "take", V.int p, V.int w]) := by simpa using hq
            rw [e]
            exact ha)
          walk_at "wp"
          exact keep S6 H6 t6 (Int.le_refl _) kn.noT _ _
        | goto p =>
          have kn := kn.tps (T' := [(b, [.str "goto", .int p])]) (fun q hq => by
            have e : q = (b, [V.str "goto", V.int p]) := by simpa using hq
            rw [e]
            exact ha)
          walk_at "wp"
          exact keep S6 H6 t6 (Int.le_refl _) kn.noT _ _
        | stop =>
          have kn := kn.tps (T' := [(b, [.str "stop"])]) (fun q hq => by
            have e : q = (b, [V.str "stop"]) := by simpa using hq
            rw [e]
            exact ha)
          walk_at "wp"
          exact keep S6 H6 t6 (Int.le_refl _) kn.noT _ _
        | mark =>
          have kn := kn.tps (T' := [(b, [.str "mark"])]) (fun q hq => by
            have e : q = (b, [V.str "mark"]) := by simpa using hq
            rw [e]
            exact ha)
          walk_at "wp"
          exact keep S6 H6 t6 (Int.le_refl _) kn.noT _ _
      · obtain ⟨S', as, xs, a4, a5, rfl, lx, hx, t5, t5', kn⟩ := hp
        have kn := kn.tps (T' := [(a, [.ref va2, .int C.size, .ref ca, .ref ba])]) (fun q hq => by
          have e : q = (a, [V.ref va2, .int C.size, .ref ca, .ref ba]) := by simpa using hq
          rw [e]
          exact kn.pp.1.2.top)
        walk_at "wp"
        refine w_tupOfL kn (SqL.of (kn.l 2 rfl)) fun c2 H7 kn => ?_
        walk_at "wp"
        refine w_kTup kn rfl fun r H8 kn => ?_
        walk_at "wp"
        have hC := kn.pp.1.2
        refine q r ⟨[1], C.size, xs, C.bank⟩ H8 S' ⟨va, c2, ba, as, kn.t 0 rfl, kn.pp.1.1, kn.t 1 rfl, hC.bt, kn.pp.2⟩ ⟨votes1, hok.s, hok.b, hok.bn, by show 1 ≤ xs.length ∧ xs.length ≤ 4000; rw [lx]; exact hok.c, fun x hm => ?_⟩ rfl (by show xs.length ≤ 48; omega) kn.fr ⟨kn.l 0 rfl, kn.l 1 rfl, kn.r 0 rfl, gc, t5⟩ (by omega)
        have e := hx x hm
        show x.Ok 1 C.size C.bank.length xs.length
        rw [lx]
        exact e
end
end Hue
set_option Elab.async false
set_option linter.all false
set_option maxRecDepth 100000
set_option maxHeartbeats 4000000
set_option autoImplicit false
namespace Hue
open PySem PySem.Spec PyProof.Rows L2
def N_is_votes : List Str := [("value" : Str), ("width" : Str), ("need" : Str)]
theorem sc_is_votes : FnScope N_is_votes [("value" : Str)] (defScope s_is_votes) := ⟨rfl, rfl, rfl, by decide +kernel, rfl, by decide +kernel, by decide +kernel⟩
/-! ### votes -/
def needB (k : Int) : V → Bool
  | .int n => decide (k < 2 * n) && decide (2 * n ≤ 2 * k)
  | _ => false
def votesIn : Int → List V → Bool
  | _, [] => true
  | k, v :: vs => needB k v && votesIn (k + 1) vs
def votesB (vs : List V) : Bool := decide (1 ≤ vs.length ∧ vs.length ≤ 5) && votesIn 1 vs
/-- no tuple -/
def NotTup (H : Hp) : V → Prop
  | .non | .int _ | .str _ | .bl _ => True
  | .ref a => ∃ xs, H a = some (.lst xs)
  | _ => False
def rIsVotes : V → Hp → VK → XK → Prop := fun x H Q _ => (∃ a vs, x = .ref a ∧ H a = some (.tup vs) ∧ (∀ v ∈ vs, flatV v = true) ∧ ∀ H', Same H H' → Q (.bl (votesB vs)) H') ∨ (NotTup H x ∧ Q (.bl false) H)
theorem votesIn_ok : ∀ {vs : List Int} {k : Int}, (∀ (i : Nat) (v : Int), vs[i]? = some v → (i : Int) + k < 2 * v ∧ v ≤ (i : Int) + k) → votesIn k (vs.map V.int) = true
  | [], _, _ => rfl
  | v :: vs, k, h => by
    have h0 := h 0 v rfl
    have ih := votesIn_ok (vs := vs) (k := k + 1) fun i u e => by
      have := h (i + 1) u e
      omega
    show (needB k (.int v) && votesIn (k + 1) (vs.map V.int)) = true
    rw [ih, Bool.and_true]
    show (decide (k < 2 * v) && decide (2 * v ≤ 2 * k)) = true
    rw [decide_eq_true (by omega), decide_eq_true (by omega)] <;> rfl
theorem VotesOk.b {vs : List Int} (h : VotesOk vs) : votesB (vs.map V.int) = true := by
  unfold votesB
  rw [votesIn_ok h.2.2, List.length_map, decide_eq_true ⟨h.1, h.2.1⟩] <;> rfl
theorem w_from {H : Hp} {Q : VK} {E : XK} {i lo hi : Int} (h : lo ≤ i ∧ i ≤ hi) (q : Q (.bl true) H) : rFrom (.int i) (.int lo) (.int hi) H Q E := ⟨lo, hi, rfl, rfl, trivial, by
  have e : isF (.int i) lo hi = true := by
    show (decide (lo ≤ i) && decide (i ≤ hi)) = true
    rw [decide_eq_true h.1, decide_eq_true h.2] <;> rfl
  rw [e]
  exact q⟩
section
variable {P : Program} {w : World} {K : PySem.W.Frag} {mg : Str → Option Value} {base : Heap}
theorem ok_is_votes (D : DefAt K mg "is_votes" s_is_votes) (T : Txt K mg) (C_is_whole : Cal P w K mg base CX0 1 "is_whole" [("value" : Str)] (Sp1 rWhole)) : Cal P w K mg base CX0 2 "is_votes" [("value" : Str)] (Sp1 rIsVotes) := by
  refine cal_of D sc_is_votes (fun _ _ _ _ _ _ us hl => match us, hl with | [_], _ => rfl) (fun vs H Q E h => ?_) (fun f cdv A outer s H vs Q E hr h => ⟨_, PSs.nox ((pss_cons (ps_if (PW.pt (pw_or (pt_not (pt_val (pe_callB (cr_isiK (K := K)) (by rfl) T.b_isinstance (by decide +kernel) (pa_cons (pv 0) (pa_cons (pe_bltn (v := .ty "tuple") (by rfl) T.b_tuple (by decide +kernel) rfl) pa_nil))))) (pw_or1 (pt_not (pt_chain op_le op_le pe_int (pe_callB (cr_lenK (K := K)) (by rfl) T.b_len (by decide +kernel) (pa_cons (pv 0) pa_nil)) (pe_gi rfl T.i_MOST_HUES_codes)))))) (pss_one (ps_ret pe_bl)) pss_nil)
      (pss_cons (ps_for PassesOwn.never rfl (pi_enumT1 (by rfl) T.b_enumerate (pa_cons (pv 0) (pa_cons pe_int pa_nil))) (pg_tupK (K := K) (n := 2) rfl (pgs_cons (pg_name (i := 1) sc_is_votes.nd rfl (Or.inl rfl)) (pgs_cons (pg_name (i := 2) sc_is_votes.nd rfl (Or.inl rfl)) pgs_nil))) (pss_one (ps_if (PW.pt (pw_or (pt_not (pt_val (pe_cl C_is_whole hr (by decide) pass0 rfl (pa_cons (pv 2) pa_nil)))) (pw_or1 (pt_not (pt_chain op_lt op_le (pv 1) (pe_op op_mul pe_int (pv 2)) (pe_op op_mul pe_int (pv 1))))))) (pss_one (ps_ret pe_bl)) pss_nil)))
      (pss_one (ps_ret pe_bl))))), ?_⟩)
  · obtain ⟨a, rfl, _⟩ := h
    rfl
  · obtain ⟨x, rfl, h⟩ := h
    rcases h with ⟨a, vs, rfl, ha, hf, q⟩ | ⟨hv, q⟩
    · have kn := Kn.start1 ha
      walk_at "wp"
      refine kIf_d (fun e1 => ?_) fun e1 => ?_
      · walk_at "wp"
        refine kIf_d (fun e2 => ?_) fun e2 => ?_
        · walk_at "wp"
          have l1 : 1 ≤ vs.length := by omega
          have l2 : vs.length ≤ 5 := by omega
          have eb : votesB vs = votesIn 1 vs := by
            unfold votesB
            rw [decide_eq_true ⟨l1, l2⟩, Bool.true_and]
          refine w_forEn1 ⟨by decide, by decide⟩ (SqT.of (kn.t 0 rfl)) (fun i σ' H' => ∃ a1 a2, σ' = [some (.ref a), a1, a2] ∧ votesIn 1 vs = votesIn (1 + (i : Int)) (vs.drop i) ∧ Kn H [] [] H' [] [(a, vs)] (fun _ => True))
            ⟨none, none, rfl, rfl, kn⟩ (fun i σ' H' _ hp => ?_) (fun i x σ' H' p hx hi hp hp0 => ?_) (fun σ' H' hp => ?_)
          · obtain ⟨_, _, _, _, kn⟩ := hp
            exact SqT.of (kn.t 0 rfl)
          · obtain ⟨a1, a2, rfl, ei, kn⟩ := hp
            have kn := kn.tup [.int (1 + (i : Int)), x] hp0
            have hd : vs.drop i = x :: vs.drop (i + 1) := by
              rw [List.drop_eq_getElem_cons hi]
              rw [(List.getElem?_eq_some_iff.mp hx).2]
            have ei : votesIn 1 vs = (needB (1 + (i : Int)) x && votesIn (1 + ((i + 1 : Nat) : Int)) (vs.drop (i + 1))) := by
              rw [ei, hd]
              show (needB _ x && votesIn (1 + (i : Int) + 1) _) = _
              have e : 1 + ((i + 1 : Nat) : Int) = 1 + (i : Int) + 1 := by omega
              rw [e]
            have fx := hf x (List.mem_of_getElem? hx)
            have bad : needB (1 + (i : Int)) x = false → votesB vs = false := fun e => by
              rw [eb, ei, e, Bool.false_and]
            walk_at "wp"
            cases x with
            | int nn =>
              refine ⟨trivial, ?_⟩
              walk_at "wp"
              refine w_rI (.inl ⟨by decide, by decide⟩) ?_
              walk_at "wp"
              refine kIf_d (fun e3 => ?_) fun e3 => ?_
              · walk_at "wp"
                refine w_rI (.inl ⟨by decide, by decide⟩) ?_
                walk_at "wp"
                refine kIf_d (fun e4 => ?_) fun e4 => ?_
                · walk_at "wp"
                  have hk : needB (1 + (i : Int)) (.int nn) = true := by
                    show (decide (1 + (i : Int) < 2 * nn) && decide (2 * nn ≤ 2 * (1 + (i : Int)))) = true
                    rw [decide_eq_true e3, decide_eq_true e4] <;> rfl
                  rw [hk, Bool.true_and] at ei
                  refine ⟨_, _, rfl, ei, kn.tps fun q hq => ?_⟩
                  have e : q = (a, vs) := by simpa using hq
                  rw [e]
                  exact kn.t 1 rfl
                · walk_at "wp"
                  rw [← bad (by
                    show (decide (1 + (i : Int) < 2 * nn) && decide (2 * nn ≤ 2 * (1 + (i : Int)))) = false
                    rw [decide_eq_false e4, Bool.and_false])]
                  exact q _ kn.fr.toSame
              · walk_at "wp"
                rw [← bad (by
                  show (decide (1 + (i : Int) < 2 * nn) && decide (2 * nn ≤ 2 * (1 + (i : Int)))) = false
                  rw [decide_eq_false e3, Bool.false_and])]
                exact q _ kn.fr.toSame
            | bl i => 
              refine ⟨trivial, ?_⟩
              walk_at "wp"
              rw [← bad rfl]
              exact q _ kn.fr.toSame
            | str i => 
              refine ⟨trivial, ?_⟩
              walk_at "wp"
              rw [← bad rfl]
              exact q _ kn.fr.toSame
            | non => 
              refine ⟨trivial, ?_⟩
              walk_at "wp"
              rw [← bad rfl]
              exact q _ kn.fr.toSame
            | _ => cases fx
          · obtain ⟨a1, a2, rfl, ei, kn⟩ := hp
            walk_at "wp"
            have e : votesB vs = true := by
              rw [eb, ei, List.drop_length] <;> rfl
            rw [← e]
            exact q _ kn.fr.toSame
        · walk_at "wp"
          have e : votesB vs = false := by
            unfold votesB
            rw [decide_eq_false (by omega), Bool.false_and]
          rw [← e]
          exact q _ kn.fr.toSame
      · walk_at "wp"
        have e : votesB vs = false := by
          unfold votesB
          rw [decide_eq_false (by omega), Bool.false_and]
        rw [← e]
        exact q _ kn.fr.toSame
    · cases x with
      | int i =>
        walk_at "wp"
        exact q
      | bl i =>
        walk_at "wp"
        exact q
      | str i =>
        walk_at "wp"
        exact q
      | non =>
        walk_at "wp"
        exact q
      | ref a =>
        obtain ⟨xs, hv⟩ := hv
        walk_at "wp"
        exact q
      | _ => exact hv.elim
end
end Hue
set_option Elab.async false
set_option linter.all false
set_option maxRecDepth 100000
set_option maxHeartbeats 4000000
set_option autoImplicit false
namespace Hue
open PySem PySem.Spec PyProof.Rows L2
def N_are_registers : List Str := [("values" : Str), ("one" : Str)]
theorem sc_are_registers : FnScope N_are_registers [("values" : Str)] (defScope s_are_registers) := ⟨rfl, rfl, rfl, by decide +kernel, rfl, by decide +kernel, by decide +kernel⟩
def N_instruction_fits : List Str := [("value" : Str), ("hue" : Str), ("size" : Str), ("many" : Str), ("word" : Str)]
theorem sc_instruction_fits : FnScope N_instruction_fits [("value" : Str), ("hue" : Str), ("size" : Str), ("many" : Str)] (defScope s_instruction_fits) := ⟨rfl, rfl, rfl, by decide +kernel, rfl, by decide +kernel, by decide +kernel⟩
def N_settle_fits : List Str := [("value" : Str), ("hues" : Str), ("many" : Str), ("word" : Str), ("most" : Str)]
theorem sc_settle_fits : FnScope N_settle_fits [("value" : Str), ("hues" : Str), ("many" : Str)] (defScope s_settle_fits) := ⟨rfl, rfl, rfl, by decide +kernel, rfl, by decide +kernel, by decide +kernel⟩
def N_cell_fits : List Str := [("value" : Str), ("hues" : Str), ("size" : Str), ("many" : Str), ("bank" : Str)]
theorem sc_cell_fits : FnScope N_cell_fits [("value" : Str), ("hues" : Str), ("size" : Str), ("many" : Str), ("bank" : Str)] (defScope s_cell_fits) := ⟨rfl, rfl, rfl, by decide +kernel, rfl, by decide +kernel, by decide +kernel⟩
def rRegs : V → Hp → VK → XK → Prop := fun x H Q _ => ∃ a vs, x = .ref a ∧ H a = some (.tup vs) ∧ (∀ v ∈ vs, ∃ b, v = .int b ∧ Reg b) ∧ ∀ H', Same H H' → Q (.bl true) H'
def rInsFits : V → V → V → V → Hp → VK → XK → Prop := fun x y z u H Q _ => ∃ (a : Addr) (h m nb : Int) (i : Ins), x = .ref a ∧ y = .int h ∧ z = .int m ∧ u = .int nb ∧ H a = some (.tup (Cell.ins h i).its) ∧ i.Ok m nb ∧ ∀ H', Same H H' → Q (.bl true) H'
def Cell.settle : Cell → Bool
  | .ins _ _ => false
  | _ => true
def rSetFits : V → V → V → Hp → VK → XK → Prop := fun x y z H Q _ => ∃ (a : Addr) (h many m nb : Int) (c : Cell), x = .ref a ∧ y = .int h ∧ z = .int many ∧ H a = some (.tup c.its) ∧ c.Ok h m nb many ∧ c.settle = true ∧ ∀ H', Same H H' → Q (.bl true) H'
def rCellFits : V → V → V → V → V → Hp → VK → XK → Prop := fun x y z u v H Q _ => ∃ (a : Addr) (h m many nb : Int) (c : Cell), x = .ref a ∧ y = .int h ∧ z = .int m ∧ u = .int many ∧ v = .int nb ∧ H a = some (.tup c.its) ∧ c.Ok h m nb many ∧ ∀ H', Same H H' → Q (.bl true) H'
section
variable {P : Program} {w : World} {K : PySem.W.Frag} {mg : Str → Option Value} {base : Heap}
theorem ok_are_registers (D : DefAt K mg "are_registers" s_are_registers) (T : Txt K mg) (C_is_from : Cal P w K mg base CX0 2 "is_from" [("value" : Str), ("low" : Str), ("high" : Str)] (Sp3 rFrom)) :
    Cal P w K mg base CX0 3 "are_registers" [("values" : Str)] (Sp1 rRegs) := by
  refine cal_of D sc_are_registers (fun _ _ _ _ _ _ us hl => match us, hl with | [_], _ => rfl) (fun vs H Q E h => ?_) (fun f cdv A outer s H vs Q E hr h => ⟨_, PSs.nox ((pss_one (ps_ret (pe_cmpR (op_eqDK (K := K) hr.units) (pe_lc (own := [("one", 1)]) rfl sc_are_registers.nd (pi_tupK (K := K) (pv 0)) (blkOk_by (own := [("one", 1)]) (N := N_are_registers) (sc := defScope s_are_registers) (by decide +kernel)) (fun _ _ _ _ _ => (pg_name (i := 1) sc_are_registers.nd rfl (by first | exact Or.inl rfl | exact Or.inr rfl))) (fun _ _ _ _ _ => by exact (pts_one (pt_not (pt_val (pe_cl C_is_from hr (by decide) pass0 rfl (pa_cons (pv 1) (pa_cons pe_int (pa_cons (pe_op op_sub (pe_gi rfl T.i_MANY_REGISTERS) pe_int) pa_nil)))))))) (fun _ _ _ _ _ => by exact (pv 1))) (pe_lst pa_nil) (nomark _))))), ?_⟩)
  · obtain ⟨a, rfl, _⟩ := h
    rfl
  · obtain ⟨x, rfl, a, vs, rfl, ha, hv, q⟩ := h
    have kn := Kn.start1 ha
    walk_at "wp"
    refine w_lcT kn (SqT.of (kn.t 0 rfl)) (fun D i H' => Kn H [] [] H' [(D, .lst [])] [(a, vs)] (fun _ => True)) (fun D H' kn => kn) (fun D i H' _ kn => SqT.of (kn.t 0 rfl)) (fun D i x H' hx hi kn => ?_) (fun D H' kn => ?_)
    · obtain ⟨b, rfl, hb⟩ := hv x (List.mem_of_getElem? hx)
      walk_at "wp"
      refine w_from ⟨hb.1, hb.2⟩ ?_
      walk_at "wp"
      exact kn
    · walk_at "wp"
      refine w_kLst kn rfl fun o H2 kn => ?_
      refine w_eqE (SqL.of (kn.l 1 rfl)) .nil (n := 0) .nil (by decide) (SqL.of (kn.l 0 rfl)) ?_
      exact q _ kn.fr.toSame
theorem rl_nil : ∀ v ∈ ([] : List V), ∃ b, v = .int b ∧ Reg b := fun v hv => by cases hv
theorem rl_cons {b : Int} {vs : List V} (hb : Reg b) (h : ∀ v ∈ vs, ∃ b, v = .int b ∧ Reg b) : ∀ v ∈ V.int b :: vs, ∃ b, v = .int b ∧ Reg b := fun v hv => by
  rcases List.mem_cons.mp hv with e | hv
  · exact ⟨b, e, hb⟩
  · exact h v hv
theorem w_regs {H0 H : Hp} {L : Obs} {T : Tps} {P : Hp → Prop} {a : Addr} {vs : List V} {Q : VK} {E : XK} (kn : Kn H0 [] [] H L T P) (ha : H a = some (.tup vs)) (hv : ∀ v ∈ vs, ∃ b, v = .int b ∧ Reg b) (h : ∀ H', Kn H0 [] [] H' L T P → Q (.bl true) H') : rRegs (.ref a) H Q E :=
  ⟨a, vs, rfl, ha, hv, fun H' s => h H' (kn.same s)⟩
theorem ok_instruction_fits (D : DefAt K mg "instruction_fits" s_instruction_fits) (T : Txt K mg) (C_is_from : Cal P w K mg base CX0 2 "is_from" [("value" : Str), ("low" : Str), ("high" : Str)] (Sp3 rFrom))
    (C_are_registers : Cal P w K mg base CX0 3 "are_registers" [("values" : Str)] (Sp1 rRegs)) :
    Cal P w K mg base CX0 4 "instruction_fits" [("value" : Str), ("hue" : Str), ("size" : Str), ("many" : Str)] (Sp4 rInsFits) := by
  refine cal_of D sc_instruction_fits (fun _ _ _ _ _ _ us hl => match us, hl with | [_, _, _, _], _ => rfl) (fun vs H Q E h => ?_) (fun f cdv A outer s H vs Q E hr h => ⟨_, PSs.nox ((pss_cons (ps_if (PW.pt (pw_or (pt_not (pt_val (pe_callB (cr_isiK (K := K)) (by rfl) T.b_isinstance (by decide +kernel) (pa_cons (pv 0) (pa_cons (pe_bltn (v := .ty "tuple") (by rfl) T.b_tuple (by decide +kernel) rfl) pa_nil))))) (pw_or (pt_cmpR op_lt (pe_callB (cr_lenK (K := K)) (by rfl) T.b_len (by decide +kernel) (pa_cons (pv 0) pa_nil)) pe_int (nomark _)) (pw_or1 (pt_not (pt_val (pe_cl C_is_from hr (by decide) pass0 rfl (pa_cons (pe_ix (ix_tupK (K := K)) (pv 0) pe_int (fun _ _ => rfl)) (pa_cons (pv 1) (pa_cons (pv 1) pa_nil)))))))))) (pss_one (ps_ret pe_bl)) pss_nil)
      (pss_cons (ps_if (pt_not (pt_val (pe_callB (cr_isiK (K := K)) (by rfl) T.b_isinstance (by decide +kernel) (pa_cons (pe_ix (ix_tupK (K := K)) (pv 0) pe_int (fun _ _ => rfl)) (pa_cons (pe_bltn (v := .ty "str") (by rfl) T.b_str (by decide +kernel) rfl) pa_nil))))) (pss_one (ps_ret pe_bl)) pss_nil)
      (pss_cons (ps_set (i := 4) sc_instruction_fits.nd rfl (Or.inl rfl) (pe_ix (ix_tupK (K := K)) (pv 0) pe_int (fun _ _ => rfl)))
      (pss_cons (ps_if (pt_cmpR op_eq (pv 4) pe_str (nomark _)) (pss_one (ps_ret (pe_and (pe_cmpR op_eq (pe_callB (cr_lenK (K := K)) (by rfl) T.b_len (by decide +kernel) (pa_cons (pv 0) pa_nil)) pe_int (nomark _)) (pe_and (pe_cl C_are_registers hr (by decide) pass0 rfl (pa_cons (pe_slice (sl_tupK (K := K)) (pv 0) (po_some pe_int) (po_some pe_int)) pa_nil)) (pe_one (pe_cl C_is_from hr (by decide) pass0 rfl (pa_cons (pe_ix (ix_tupK (K := K)) (pv 0) pe_int (fun _ _ => rfl)) (pa_cons pe_int (pa_cons (pe_op op_sub (pv 2) pe_int) pa_nil))))))))) pss_nil)
      (pss_cons (ps_if (pt_cmpR op_eq (pv 4) pe_str (nomark _)) (pss_one (ps_ret (pe_and (pe_cmpR op_eq (pe_callB (cr_lenK (K := K)) (by rfl) T.b_len (by decide +kernel) (pa_cons (pv 0) pa_nil)) pe_int (nomark _)) (pe_one (pe_cl C_are_registers hr (by decide) pass0 rfl (pa_cons (pe_slice (sl_tupK (K := K)) (pv 0) (po_some pe_int) po_none) pa_nil)))))) pss_nil)
      (pss_cons (ps_if (pt_cmpR (op_inK (K := K)) (pv 4) (pe_tup (pa_cons pe_str (pa_cons pe_str pa_nil))) (by rfl)) (pss_cons (ps_if (PW.pt (pw_or (pt_cmpR op_ne (pe_callB (cr_lenK (K := K)) (by rfl) T.b_len (by decide +kernel) (pa_cons (pv 0) pa_nil)) pe_int (nomark _)) (pw_or1 (pt_not (pt_val (pe_cl C_are_registers hr (by decide) pass0 rfl (pa_cons (pe_slice (sl_tupK (K := K)) (pv 0) (po_some pe_int) (po_some pe_int)) pa_nil))))))) (pss_one (ps_ret pe_bl)) pss_nil)
      (pss_one (ps_ret (pe_and (pe_cl C_is_from hr (by decide) pass0 rfl (pa_cons (pe_ix (ix_tupK (K := K)) (pv 0) pe_int (fun _ _ => rfl)) (pa_cons pe_int (pa_cons (pv 3) pa_nil)))) (pe_one (pe_cl C_is_from hr (by decide) pass0 rfl (pa_cons (pe_ix (ix_tupK (K := K)) (pv 0) pe_int (fun _ _ => rfl)) (pa_cons pe_int (pa_cons (pe_op op_sub (pv 3) (pe_ix (ix_tupK (K := K)) (pv 0) pe_int (fun _ _ => rfl))) pa_nil))))))))) pss_nil)
      (pss_one (ps_ret (pe_and (pe_cmpR (op_inK (K := K)) (pv 4) (pe_glob (v := .ref (He.ga K "TWOS")) rfl T.gTWOS rfl) (by rfl)) (pe_and (pe_cmpR op_eq (pe_callB (cr_lenK (K := K)) (by rfl) T.b_len (by decide +kernel) (pa_cons (pv 0) pa_nil)) pe_int (nomark _)) (pe_one (pe_cl C_are_registers hr (by decide) pass0 rfl (pa_cons (pe_slice (sl_tupK (K := K)) (pv 0) (po_some pe_int) po_none) pa_nil)))))))))))))), ?_⟩)
  · obtain ⟨a, b, c, d, rfl, _⟩ := h
    rfl
  · obtain ⟨x, y, z, u, rfl, a, h, m, nb, i, rfl, rfl, rfl, rfl, ha, hi, q⟩ := h
    cases i with
    | set b n =>
      have kn := Kn.start1 (xs := [.int h, .str "set", .int b, .int n]) ha
      obtain ⟨hb, h1, h2⟩ := hi
      walk_at "wp"
      refine w_from ⟨Int.le_refl _, Int.le_refl _⟩ ?_
      walk_at "wp"
      refine w_slT kn (SqT.of (kn.t 0 rfl)) (fun z => absurd (show (2 : Nat) = 0 from z.1) (by decide)) fun l H1 kn => ?_
      walk_at "wp"
      refine w_regs (vs := [.int b]) kn (kn.t 0 rfl) (rl_cons hb rl_nil) fun H2 kn => ?_
      walk_at "wp"
      refine w_from ⟨h1, by omega⟩ ?_
      exact q _ kn.fr.toSame
    | offer b =>
      have kn := Kn.start1 (xs := [.int h, .str "offer", .int b]) ha
      walk_at "wp"
      refine w_from ⟨Int.le_refl _, Int.le_refl _⟩ ?_
      walk_at "wp"
      refine w_slT kn (SqT.of (kn.t 0 rfl)) (fun z => absurd (show (2 : Nat) = 0 from z.1) (by decide)) fun l H1 kn => ?_
      walk_at "wp"
      refine w_regs (vs := [.int b]) kn (kn.t 0 rfl) (rl_cons hi rl_nil) fun H2 kn => ?_
      exact q _ kn.fr.toSame
    | get b c ba le =>
      have kn := Kn.start1 (xs := [.int h, .str "get", .int b, .int c, .int ba, .int le]) ha
      obtain ⟨hb, hc, h1, h2, h3⟩ := hi
      walk_at "wp"
      refine w_from ⟨Int.le_refl _, Int.le_refl _⟩ ?_
      walk_at "wp"
      refine w_kTup kn rfl fun o H1 kn => ?_
      walk_at "wp"
      refine w_in (k := true) (.inr (SqT.of (kn.t 0 rfl))) rfl rfl (by decide +kernel) ?_
      walk_at "wp"
      refine w_slT kn (SqT.of (kn.t 1 rfl)) (fun z => absurd (show (2 : Nat) = 0 from z.1) (by decide)) fun l H2 kn => ?_
      walk_at "wp"
      refine w_regs (vs := [.int b, .int c]) kn (kn.t 0 rfl) (rl_cons hb (rl_cons hc rl_nil)) fun H3 kn => ?_
      walk_at "wp"
      refine w_from ⟨h1, by omega⟩ ?_
      walk_at "wp"
      refine w_from ⟨h2, by omega⟩ ?_
      exact q _ kn.fr.toSame
    | put b c ba le =>
      have kn := Kn.start1 (xs := [.int h, .str "put", .int b, .int c, .int ba, .int le]) ha
      obtain ⟨hb, hc, h1, h2, h3⟩ := hi
      walk_at "wp"
      refine w_from ⟨Int.le_refl _, Int.le_refl _⟩ ?_
      walk_at "wp"
      refine w_kTup kn rfl fun o H1 kn => ?_
      walk_at "wp"
      refine w_in (k := true) (.inr (SqT.of (kn.t 0 rfl))) rfl rfl (by decide +kernel) ?_
      walk_at "wp"
      refine w_slT kn (SqT.of (kn.t 1 rfl)) (fun z => absurd (show (2 : Nat) = 0 from z.1) (by decide)) fun l H2 kn => ?_
      walk_at "wp"
      refine w_regs (vs := [.int b, .int c]) kn (kn.t 0 rfl) (rl_cons hb (rl_cons hc rl_nil)) fun H3 kn => ?_
      walk_at "wp"
      refine w_from ⟨h1, by omega⟩ ?_
      walk_at "wp"
      refine w_from ⟨h2, by omega⟩ ?_
      exact q _ kn.fr.toSame
    | two wd b c d =>
      have kn := Kn.start1 (xs := [.int h, .str wd, .int b, .int c, .int d]) ha
      obtain ⟨hw, hb, hc, hd⟩ := hi
      unfold twos at hw
      simp only [List.mem_cons, List.not_mem_nil, or_false] at hw
      rcases hw with rfl | rfl | rfl | rfl | rfl | rfl
      all_goals
        walk_at "wp"
        refine w_from ⟨Int.le_refl _, Int.le_refl _⟩ ?_
        walk_at "wp"
        refine w_kTup kn rfl fun o H1 kn => ?_
        walk_at "wp"
        refine w_in (k := false) (.inr (SqT.of (kn.t 0 rfl))) rfl rfl (by decide +kernel) ?_
        walk_at "wp"
        refine w_in (k := true) (.inr (T.sTWOS _)) rfl rfl (by decide +kernel) ?_
        walk_at "wp"
        refine w_slT kn (SqT.of (kn.t 1 rfl)) (fun z => absurd (show (2 : Nat) = 0 from z.1) (by decide)) fun l H2 kn => ?_
        walk_at "wp"
        refine w_regs (vs := [.int b, .int c, .int d]) kn (kn.t 0 rfl) (rl_cons hb (rl_cons hc (rl_cons hd rl_nil))) fun H3 kn => ?_
        exact q _ kn.fr.toSame
theorem ok_settle_fits (D : DefAt K mg "settle_fits" s_settle_fits) (T : Txt K mg) (C_is_from : Cal P w K mg base CX0 2 "is_from" [("value" : Str), ("low" : Str), ("high" : Str)] (Sp3 rFrom)) :
    Cal P w K mg base CX0 3 "settle_fits" [("value" : Str), ("hues" : Str), ("many" : Str)] (Sp3 rSetFits) := by
  refine cal_of D sc_settle_fits (fun _ _ _ _ _ _ us hl => match us, hl with | [_, _, _], _ => rfl) (fun vs H Q E h => ?_) (fun f cdv A outer s H vs Q E hr h => ⟨_, PSs.nox ((pss_cons (ps_if (PW.pt (pw_or (pt_not (pt_val (pe_callB (cr_isiK (K := K)) (by rfl) T.b_isinstance (by decide +kernel) (pa_cons (pv 0) (pa_cons (pe_bltn (v := .ty "tuple") (by rfl) T.b_tuple (by decide +kernel) rfl) pa_nil))))) (pw_or (pt_cmpR op_eq (pe_callB (cr_lenK (K := K)) (by rfl) T.b_len (by decide +kernel) (pa_cons (pv 0) pa_nil)) pe_int (nomark _)) (pw_or1 (pt_not (pt_val (pe_callB (cr_isiK (K := K)) (by rfl) T.b_isinstance (by decide +kernel) (pa_cons (pe_ix (ix_tupK (K := K)) (pv 0) pe_int (fun _ _ => rfl)) (pa_cons (pe_bltn (v := .ty "str") (by rfl) T.b_str (by decide +kernel) rfl) pa_nil))))))))) (pss_one (ps_ret pe_bl)) pss_nil)
      (pss_cons (ps_set (i := 3) sc_settle_fits.nd rfl (Or.inl rfl) (pe_ix (ix_tupK (K := K)) (pv 0) pe_int (fun _ _ => rfl)))
      (pss_cons (ps_if (pt_cmpR (op_inK (K := K)) (pv 3) (pe_tup (pa_cons pe_str (pa_cons pe_str pa_nil))) (by rfl)) (pss_one (ps_ret (pe_cmpR op_eq (pe_callB (cr_lenK (K := K)) (by rfl) T.b_len (by decide +kernel) (pa_cons (pv 0) pa_nil)) pe_int (nomark _)))) pss_nil)
      (pss_cons (ps_if (pt_cmpR op_eq (pv 3) pe_str (nomark _)) (pss_one (ps_ret (pe_and (pe_cmpR op_eq (pe_callB (cr_lenK (K := K)) (by rfl) T.b_len (by decide +kernel) (pa_cons (pv 0) pa_nil)) pe_int (nomark _)) (pe_one (pe_cl C_is_from hr (by decide) pass0 rfl (pa_cons (pe_ix (ix_tupK (K := K)) (pv 0) pe_int (fun _ _ => rfl)) (pa_cons pe_int (pa_cons (pe_op op_sub (pv 2) pe_int) pa_nil)))))))) pss_nil)
      (pss_cons (ps_if (PW.pt (pw_or (pt_cmpR (op_ninK (K := K)) (pv 3) (pe_tup (pa_cons pe_str (pa_cons pe_str (pa_cons pe_str pa_nil)))) (by rfl)) (pw_or (pt_cmpR op_ne (pe_callB (cr_lenK (K := K)) (by rfl) T.b_len (by decide +kernel) (pa_cons (pv 0) pa_nil)) pe_int (nomark _)) (pw_or1 (pt_not (pt_val (pe_cl C_is_from hr (by decide) pass0 rfl (pa_cons (pe_ix (ix_tupK (K := K)) (pv 0) pe_int (fun _ _ => rfl)) (pa_cons pe_int (pa_cons (pv 1) pa_nil)))))))))) (pss_one (ps_ret pe_bl)) pss_nil)
      (pss_cons (ps_set (i := 4) sc_settle_fits.nd rfl (Or.inl rfl) (pe_dget (hu_of hr) (pe_disp (pps_cons pe_str (pe_gi rfl T.i_MOST_PORT) (pps_cons pe_str (pe_op op_sub (pv 2) pe_int) (pps_cons pe_str (pe_op op_sub (pe_gi rfl T.i_MANY_REGISTERS) pe_int) pps_nil))) (by rfl) (by rfl) (fun z => by cases z) (by decide)) (pv 3) (fun _ _ => rfl)))
      (pss_one (ps_ret (pe_cl C_is_from hr (by decide) pass0 rfl (pa_cons (pe_ix (ix_tupK (K := K)) (pv 0) pe_int (fun _ _ => rfl)) (pa_cons pe_int (pa_cons (pv 4) pa_nil))))))))))))), ?_⟩)
  · obtain ⟨a, b, c, rfl, _⟩ := h
    rfl
  · obtain ⟨x, y, z, rfl, a, h, many, m, nb, cc, rfl, rfl, rfl, ha, hok, hs, q⟩ := h
    cases cc with
    | ins _ _ => cases hs
    | stop =>
      have kn := Kn.start1 (xs := [.str "stop"]) ha
      walk_at "wp"
      refine w_kTup kn rfl fun o H1 kn => ?_
      walk_at "wp"
      refine w_in (k := true) (.inr (SqT.of (kn.t 0 rfl))) rfl rfl (by decide +kernel) ?_
      walk_at "wp"
      exact q _ kn.fr.toSame
    | mark =>
      have kn := Kn.start1 (xs := [.str "mark"]) ha
      walk_at "wp"
      refine w_kTup kn rfl fun o H1 kn => ?_
      walk_at "wp"
      refine w_in (k := true) (.inr (SqT.of (kn.t 0 rfl))) rfl rfl (by decide +kernel) ?_
      walk_at "wp"
      exact q _ kn.fr.toSame
    | goto g =>
      have kn := Kn.start1 (xs := [.str "goto", .int g]) ha
      obtain ⟨h1, h2⟩ := hok
      walk_at "wp"
      refine w_kTup kn rfl fun o H1 kn => ?_
      walk_at "wp"
      refine w_in (k := false) (.inr (SqT.of (kn.t 0 rfl))) rfl rfl (by decide +kernel) ?_
      walk_at "wp"
      refine w_from ⟨h1, by omega⟩ ?_
      exact q _ kn.fr.toSame
    | shw p wd =>
      have kn := Kn.start1 (xs := [.str "show", .int p, .int wd]) ha
      obtain ⟨h1, h2, h3, h4⟩ := hok
      walk_at "wp"
      refine w_kTup kn rfl fun o H1 kn => ?_
      walk_at "wp"
      refine w_in (k := false) (.inr (SqT.of (kn.t 0 rfl))) rfl rfl (by decide +kernel) ?_
      walk_at "wp"
      refine w_kTup kn rfl fun o H2 kn => ?_
      walk_at "wp"
      refine w_in (k := false) (.inr (SqT.of (kn.t 0 rfl))) rfl rfl (by decide +kernel) ?_
      walk_at "wp"
      refine w_from ⟨h3, h4⟩ ?_
      walk_at "wp"
      refine w_disp kn fun dd H3 kn => ?_
      walk_at "wp"
      refine w_kDisp kn 0 rfl [("show" : Str), ("turn" : Str), ("take" : Str)] [.int 5, .int (many - 1), .int (8 - 1)] (by decide +kernel) rfl rfl rfl fun H4 kn => ?_
      walk_at "wp"
      refine w_from ⟨h1, h2⟩ ?_
      exact q _ kn.fr.toSame
    | turn g wd =>
      have kn := Kn.start1 (xs := [.str "turn", .int g, .int wd]) ha
      obtain ⟨h1, h2, h3, h4⟩ := hok
      walk_at "wp"
      refine w_kTup kn rfl fun o H1 kn => ?_
      walk_at "wp"
      refine w_in (k := false) (.inr (SqT.of (kn.t 0 rfl))) rfl rfl (by decide +kernel) ?_
      walk_at "wp"
      refine w_kTup kn rfl fun o H2 kn => ?_
      walk_at "wp"
      refine w_in (k := false) (.inr (SqT.of (kn.t 0 rfl))) rfl rfl (by decide +kernel) ?_
      walk_at "wp"
      refine w_from ⟨h3, h4⟩ ?_
      walk_at "wp"
      refine w_disp kn fun dd H3 kn => ?_
      walk_at "wp"
      refine w_kDisp kn 0 rfl [("show" : Str), ("turn" : Str), ("take" : Str)] [.int 5, .int (many - 1), .int (8 - 1)] (by decide +kernel) rfl rfl rfl fun H4 kn => ?_
      walk_at "wp"
      refine w_from ⟨h1, by omega⟩ ?_
      exact q _ kn.fr.toSame
    | take b wd =>
      have kn := Kn.start1 (xs := [.str "take", .int b, .int wd]) ha
      obtain ⟨hb, h3, h4⟩ := hok
      walk_at "wp"
      refine w_kTup kn rfl fun o H1 kn => ?_
      walk_at "wp"
      refine w_in (k := false) (.inr (SqT.of (kn.t 0 rfl))) rfl rfl (by decide +kernel) ?_
      walk_at "wp"
      refine w_kTup kn rfl fun o H2 kn => ?_
      walk_at "wp"
      refine w_in (k := false) (.inr (SqT.of (kn.t 0 rfl))) rfl rfl (by decide +kernel) ?_
      walk_at "wp"
      refine w_from ⟨h3, h4⟩ ?_
      walk_at "wp"
      refine w_disp kn fun dd H3 kn => ?_
      walk_at "wp"
      refine w_kDisp kn 0 rfl [("show" : Str), ("turn" : Str), ("take" : Str)] [.int 5, .int (many - 1), .int (8 - 1)] (by decide +kernel) rfl rfl rfl fun H4 kn => ?_
      walk_at "wp"
      refine w_from ⟨hb.1, hb.2⟩ ?_
      exact q _ kn.fr.toSame
theorem ok_cell_fits (D : DefAt K mg "cell_fits" s_cell_fits) (T : Txt K mg) (C_is_from : Cal P w K mg base CX0 2 "is_from" [("value" : Str), ("low" : Str), ("high" : Str)] (Sp3 rFrom))
    (C_instruction_fits : Cal P w K mg base CX0 4 "instruction_fits" [("value" : Str), ("hue" : Str), ("size" : Str), ("many" : Str)] (Sp4 rInsFits)) (C_settle_fits : Cal P w K mg base CX0 3 "settle_fits" [("value" : Str), ("hues" : Str), ("many" : Str)] (Sp3 rSetFits)) :
    Cal P w K mg base CX0 5 "cell_fits" [("value" : Str), ("hues" : Str), ("size" : Str), ("many" : Str), ("bank" : Str)] (Sp5 rCellFits) := by
  refine cal_of D sc_cell_fits (fun _ _ _ _ _ _ us hl => match us, hl with | [_, _, _, _, _], _ => rfl) (fun vs H Q E h => ?_) (fun f cdv A outer s H vs Q E hr h => ⟨_, PSs.nox ((pss_cons (ps_if (PW.pt (pw_or (pt_not (pt_val (pe_callB (cr_isiK (K := K)) (by rfl) T.b_isinstance (by decide +kernel) (pa_cons (pv 0) (pa_cons (pe_bltn (v := .ty "tuple") (by rfl) T.b_tuple (by decide +kernel) rfl) pa_nil))))) (pw_or1 (pt_cmpR op_eq (pe_callB (cr_lenK (K := K)) (by rfl) T.b_len (by decide +kernel) (pa_cons (pv 0) pa_nil)) pe_int (nomark _))))) (pss_one (ps_ret pe_bl)) pss_nil)
      (pss_cons (ps_if (pt_val (pe_cl C_is_from hr (by decide) pass0 rfl (pa_cons (pe_ix (ix_tupK (K := K)) (pv 0) pe_int (fun _ _ => rfl)) (pa_cons pe_int (pa_cons (pe_op op_sub (pv 1) pe_int) pa_nil))))) (pss_one (ps_ret (pe_cl C_instruction_fits hr (by decide) pass0 rfl (pa_cons (pv 0) (pa_cons (pe_ix (ix_tupK (K := K)) (pv 0) pe_int (fun _ _ => rfl)) (pa_cons (pv 2) (pa_cons (pv 4) pa_nil))))))) pss_nil)
      (pss_one (ps_ret (pe_cl C_settle_fits hr (by decide) pass0 rfl (pa_cons (pv 0) (pa_cons (pv 1) (pa_cons (pv 3) pa_nil))))))))), ?_⟩)
  · obtain ⟨a, b, c, d, e, rfl, _⟩ := h
    rfl
  · obtain ⟨x, y, z, u, v, rfl, a, h, m, many, nb, cc, rfl, rfl, rfl, rfl, rfl, ha, hok, q⟩ := h
    have notW : ∀ {wd : Str} {lo hi : Int} {H1 : Hp} {Q : VK} {E : XK}, Q (.bl false) H1 → rFrom (.str wd) (.int lo) (.int hi) H1 Q E := fun {wd lo hi H1 Q E} q => ⟨lo, hi, rfl, rfl, trivial, q⟩
    cases cc with
    | ins j i =>
      have kn := Kn.start1 (xs := .int j :: i.its) ha
      obtain ⟨h1, h2, h3⟩ := hok
      walk_at "wp"
      refine w_ixT (SqT.of (kn.t 0 rfl)) atI_0 ?_
      walk_at "wp"
      refine w_from ⟨h1, by omega⟩ ?_
      walk_at "wp"
      refine w_ixT (SqT.of (kn.t 0 rfl)) atI_0 ?_
      walk_at "wp"
      exact ⟨a, j, m, nb, i, rfl, rfl, rfl, rfl, kn.t 0 rfl, h3, q⟩
    | stop =>
      have kn := Kn.start1 (xs := [.str "stop"]) ha
      walk_at "wp"
      refine notW ?_
      walk_at "wp"
      exact ⟨a, h, many, m, nb, .stop, rfl, rfl, rfl, kn.t 0 rfl, hok, rfl, q⟩
    | mark =>
      have kn := Kn.start1 (xs := [.str "mark"]) ha
      walk_at "wp"
      refine notW ?_
      walk_at "wp"
      exact ⟨a, h, many, m, nb, .mark, rfl, rfl, rfl, kn.t 0 rfl, hok, rfl, q⟩
    | goto g =>
      have kn := Kn.start1 (xs := [.str "goto", .int g]) ha
      walk_at "wp"
      refine notW ?_
      walk_at "wp"
      exact ⟨a, h, many, m, nb, .goto g, rfl, rfl, rfl, kn.t 0 rfl, hok, rfl, q⟩
    | shw p wd =>
      have kn := Kn.start1 (xs := [.str "show", .int p, .int wd]) ha
      walk_at "wp"
      refine notW ?_
      walk_at "wp"
      exact ⟨a, h, many, m, nb, .shw p wd, rfl, rfl, rfl, kn.t 0 rfl, hok, rfl, q⟩
    | turn g wd =>
      have kn := Kn.start1 (xs := [.str "turn", .int g, .int wd]) ha
      walk_at "wp"
      refine notW ?_
      walk_at "wp"
      exact ⟨a, h, many, m, nb, .turn g wd, rfl, rfl, rfl, kn.t 0 rfl, hok, rfl, q⟩
    | take b wd =>
      have kn := Kn.start1 (xs := [.str "take", .int b, .int wd]) ha
      walk_at "wp"
      refine notW ?_
      walk_at "wp"
      exact ⟨a, h, many, m, nb, .take b wd, rfl, rfl, rfl, kn.t 0 rfl, hok, rfl, q⟩
end
end Hue
set_option Elab.async false
set_option linter.all false
set_option maxRecDepth 100000
set_option maxHeartbeats 4000000
set_option autoImplicit false
namespace Hue
open PySem PySem.Spec PyProof.Rows L2
def N_is_code : List Str := [("value" : Str), ("votes" : Str), ("size" : Str), ("cells" : Str), ("bank" : Str), ("many" : Str), ("one" : Str), ("cell" : Str)]
theorem sc_is_code : FnScope N_is_code [("value" : Str)] (defScope s_is_code) := ⟨rfl, rfl, rfl, by decide +kernel, rfl, by decide +kernel, by decide +kernel⟩
/-- a code but for its least number of cells -/
structure Code.Ok0 (C : Code) : Prop where
  v : VotesOk C.votes
  s : 2 ≤ C.size ∧ C.size ≤ 10000
  b : C.bank.length ≤ 600
  bn : ∀ n ∈ C.bank, 0 ≤ n ∧ n < C.size
  c : C.cells.length ≤ 4000
  cn : ∀ x ∈ C.cells, x.Ok C.votes.length C.size C.bank.length C.cells.length
theorem Code.Ok.to0 {C : Code} (h : C.Ok) : C.Ok0 := ⟨h.v, h.s, h.b, h.bn, h.c.2, h.cn⟩
def rIsCode : V → Hp → VK → XK → Prop := fun x H Q _ => (NotTup H x ∧ Q (.bl false) H) ∨ (∃ a vs, x = .ref a ∧ H a = some (.tup vs) ∧ vs.length ≠ 4 ∧ Q (.bl false) H) ∨
  ∃ a C, x = .ref a ∧ IsCode H a C ∧ C.Ok0 ∧ ∀ H', Same H H' → Q (.bl (decide (1 ≤ C.cells.length))) H'
section
variable {P : Program} {w : World} {K : PySem.W.Frag} {mg : Str → Option Value} {base : Heap}
theorem ok_is_code (D : DefAt K mg "is_code" s_is_code) (T : Txt K mg) (C_is_from : Cal P w K mg base CX0 2 "is_from" [("value" : Str), ("low" : Str), ("high" : Str)] (Sp3 rFrom))
    (C_is_votes : Cal P w K mg base CX0 2 "is_votes" [("value" : Str)] (Sp1 rIsVotes)) (C_cell_fits : Cal P w K mg base CX0 5 "cell_fits" [("value" : Str), ("hues" : Str), ("size" : Str), ("many" : Str), ("bank" : Str)] (Sp5 rCellFits)) :
    Cal P w K mg base CX0 6 "is_code" [("value" : Str)] (Sp1 rIsCode) := by
  refine cal_of D sc_is_code (fun _ _ _ _ _ _ us hl => match us, hl with | [_], _ => rfl) (fun vs H Q E h => ?_) (fun f cdv A outer s H vs Q E hr h => ⟨_, PSs.nox ((pss_cons (ps_if (PW.pt (pw_or (pt_not (pt_val (pe_callB (cr_isiK (K := K)) (by rfl) T.b_isinstance (by decide +kernel) (pa_cons (pv 0) (pa_cons (pe_bltn (v := .ty "tuple") (by rfl) T.b_tuple (by decide +kernel) rfl) pa_nil))))) (pw_or (pt_cmpR op_ne (pe_callB (cr_lenK (K := K)) (by rfl) T.b_len (by decide +kernel) (pa_cons (pv 0) pa_nil)) pe_int (nomark _)) (pw_or1 (pt_not (pt_val (pe_cl C_is_votes hr (by decide) pass0 rfl (pa_cons (pe_ix (ix_tupK (K := K)) (pv 0) pe_int (fun _ _ => rfl)) pa_nil)))))))) (pss_one (ps_ret pe_bl)) pss_nil)
      (pss_cons (ps_asg (pv 0) (pg_tupK (K := K) (n := 4) rfl (pgs_cons (pg_name (i := 1) sc_is_code.nd rfl (Or.inr rfl)) (pgs_cons (pg_name (i := 2) sc_is_code.nd rfl (Or.inr rfl)) (pgs_cons (pg_name (i := 3) sc_is_code.nd rfl (Or.inl rfl)) (pgs_cons (pg_name (i := 4) sc_is_code.nd rfl (Or.inr rfl)) pgs_nil))))))
      (pss_cons (ps_if (PW.pt (pw_or (pt_not (pt_val (pe_cl C_is_from hr (by decide) pass0 rfl (pa_cons (pv 2) (pa_cons (pe_gi rfl T.i_LEAST_SIZE) (pa_cons (pe_gi rfl T.i_MOST_SIZE) pa_nil)))))) (pw_or (pt_not (pt_val (pe_callB (cr_isiK (K := K)) (by rfl) T.b_isinstance (by decide +kernel) (pa_cons (pv 4) (pa_cons (pe_bltn (v := .ty "tuple") (by rfl) T.b_tuple (by decide +kernel) rfl) pa_nil))))) (pw_or1 (pt_cmpR op_gt (pe_callB (cr_lenK (K := K)) (by rfl) T.b_len (by decide +kernel) (pa_cons (pv 4) pa_nil)) (pe_gi rfl T.i_MOST_BANK) (nomark _)))))) (pss_one (ps_ret pe_bl)) pss_nil)
      (pss_cons (ps_if (pt_cmpR (op_neDK (K := K) hr.units) (pe_lc (own := [("one", 6)]) rfl sc_is_code.nd (pi_tupK (K := K) (pv 4)) (blkOk_by (own := [("one", 6)]) (N := N_is_code) (sc := defScope s_is_code) (by decide +kernel)) (fun _ _ _ _ _ => (pg_name (i := 6) sc_is_code.nd rfl (by first | exact Or.inl rfl | exact Or.inr rfl))) (fun _ _ _ _ _ => by exact (pts_one (pt_not (pt_val (pe_cl C_is_from hr (by decide) pass0 rfl (pa_cons (pv 6) (pa_cons pe_int (pa_cons (pe_op op_sub (pv 2) pe_int) pa_nil)))))))) (fun _ _ _ _ _ => by exact (pv 6))) (pe_lst pa_nil) (nomark _)) (pss_one (ps_ret pe_bl)) pss_nil)
      (pss_cons (ps_if (PW.pt (pw_or (pt_not (pt_val (pe_callB (cr_isiK (K := K)) (by rfl) T.b_isinstance (by decide +kernel) (pa_cons (pv 3) (pa_cons (pe_bltn (v := .ty "tuple") (by rfl) T.b_tuple (by decide +kernel) rfl) pa_nil))))) (pw_or1 (pt_not (pt_chain op_le op_le pe_int (pe_callB (cr_lenK (K := K)) (by rfl) T.b_len (by decide +kernel) (pa_cons (pv 3) pa_nil)) (pe_gi rfl T.i_MOST_CELLS_codes)))))) (pss_one (ps_ret pe_bl)) pss_nil)
      (pss_cons (ps_set (i := 5) sc_is_code.nd rfl (Or.inr rfl) (pe_callB (cr_lenK (K := K)) (by rfl) T.b_len (by decide +kernel) (pa_cons (pv 3) pa_nil)))
      (pss_one (ps_ret (pe_cmpR (op_eqDK (K := K) hr.units) (pe_lc (own := [("cell", 7)]) rfl sc_is_code.nd (pi_tupK (K := K) (pv 3)) (blkOk_by (own := [("cell", 7)]) (N := N_is_code) (sc := defScope s_is_code) (by decide +kernel)) (fun _ _ _ _ _ => (pg_name (i := 7) sc_is_code.nd rfl (by first | exact Or.inl rfl | exact Or.inr rfl))) (fun _ _ _ _ _ => by exact (pts_one (pt_not (pt_val (pe_cl C_cell_fits hr (by decide) pass0 rfl (pa_cons (pv 7) (pa_cons (pe_callB (cr_lenK (K := K)) (by rfl) T.b_len (by decide +kernel) (pa_cons (pv 1) pa_nil)) (pa_cons (pv 2) (pa_cons (pv 5) (pa_cons (pe_callB (cr_lenK (K := K)) (by rfl) T.b_len (by decide +kernel) (pa_cons (pv 4) pa_nil)) pa_nil)))))))))) (fun _ _ _ _ _ => by exact (pv 7))) (pe_lst pa_nil) (nomark _))))))))))), ?_⟩)
  · obtain ⟨a, rfl, _⟩ := h
    rfl
  · obtain ⟨x, rfl, h⟩ := h
    rcases h with ⟨hv, q⟩ | ⟨a, vs, rfl, ha, hl, q⟩ | ⟨a, C, rfl, hC, hok, q⟩
    · cases x with
      | int i =>
        walk_at "wp"
        exact q
      | bl i =>
        walk_at "wp"
        exact q
      | str i =>
        walk_at "wp"
        exact q
      | non =>
        walk_at "wp"
        exact q
      | ref a =>
        obtain ⟨xs, hv⟩ := hv
        walk_at "wp"
        exact q
      | _ => exact hv.elim
    · have kn := Kn.start1 ha
      walk_at "wp"
      refine kIf_d (fun e => absurd e (by omega)) fun e => ?_
      walk_at "wp"
      exact q
    · obtain ⟨va, ca, ba, as, hC⟩ := hC
      have kn := (Kn.start0T (H0 := H) (T := [(a, [.ref va, .int C.size, .ref ca, .ref ba]), (va, C.votes.map V.int), (ca, as.map V.ref), (ba, C.bank.map V.int)]) (fun q hq => by
        simp only [List.mem_cons, List.not_mem_nil, or_false] at hq
        rcases hq with e | e | e | e <;> rw [e]
        · exact hC.top
        · exact hC.vt
        · exact hC.ct
        · exact hC.bt)).imp (CodeAt.mo a C va ca ba as) fun _ => hC
      have la : as.length = C.cells.length := Code.len hC
      have hb := hok.b
      have hs := hok.s
      have hc := hok.c
      walk_at "wp"
      refine .inl ⟨va, _, rfl, kn.t 1 rfl, fun v hv => ?_, fun H1 s1 => ?_⟩
      · obtain ⟨n, _, rfl⟩ := List.mem_map.mp hv
        rfl
      have kn := kn.same s1
      rw [hok.v.b]
      walk_at "wp"
      refine w_from ⟨hs.1, hs.2⟩ ?_
      walk_at "wp"
      rw [List.length_map]
      refine kIf_d (fun e => absurd e (by omega)) fun e => ?_
      walk_at "wp"
      refine w_lcT kn (SqT.of (kn.t 3 rfl)) (fun D i H' => Kn H [] [] H' [(D, .lst [])] [(a, [.ref va, .int C.size, .ref ca, .ref ba]), (va, C.votes.map V.int), (ca, as.map V.ref), (ba, C.bank.map V.int)] (fun H => CodeAt H a C va ca ba as)) (fun D H' kn => kn) (fun D i H' _ kn => SqT.of (kn.t 3 rfl)) (fun D i x H' hx hi kn => ?_) (fun D H' kn => ?_)
      · obtain ⟨n, hn, rfl⟩ := int_map hx
        have hnn := hok.bn n (List.mem_of_getElem? hn)
        walk_at "wp"
        refine w_from ⟨hnn.1, by omega⟩ ?_
        walk_at "wp"
        exact kn
      walk_at "wp"
      refine w_kLst kn rfl fun o H2 kn => ?_
      refine w_neE (SqL.of (kn.l 1 rfl)) .nil (n := 0) .nil (by decide) (SqL.of (kn.l 0 rfl)) ?_
      walk_at "wp"
      rw [List.length_map, la]
      refine kIf_d (fun e1 => ?_) fun e1 => ?_
      · walk_at "wp"
        refine kIf_d (fun e2 => ?_) fun e2 => absurd (show ((C.cells.length : Nat) : Int) ≤ 4000 by omega) (by rw [← la] at *; simpa using e2)
        walk_at "wp"
        refine w_lcT kn (SqT.of (kn.t 2 rfl)) (fun D i H' => Kn H [] [] H' [(D, .lst [])] [(a, [.ref va, .int C.size, .ref ca, .ref ba]), (va, C.votes.map V.int), (ca, as.map V.ref), (ba, C.bank.map V.int)] (fun H => CodeAt H a C va ca ba as)) (fun D H' kn => kn.obs (by simp) (fun q hq => by
            have e : q = (D, .lst []) := by simpa using hq
            rw [e]
            exact List.mem_cons_self)) (fun D i H' _ kn => SqT.of (kn.t 2 rfl)) (fun D i x H' hx hi kn => ?_) (fun D H' kn => ?_)
        · obtain ⟨b, eb, rfl⟩ := At.refs hx
          obtain ⟨its, e1, hb⟩ := kn.pp.cs.get' eb
          rw [List.getElem?_map] at e1
          obtain ⟨cc, ec, rfl⟩ := Option.map_eq_some_iff.mp e1
          have hcc := hok.cn cc (List.mem_of_getElem? ec)
          walk_at "wp"
          refine ⟨b, _, _, _, _, cc, rfl, rfl, rfl, rfl, rfl, hb, ?_, fun H3 s3 => ?_⟩
          · rw [List.length_map, List.length_map, List.length_map, la]
            exact hcc
          · have kn := kn.same s3
            walk_at "wp"
            exact kn
        · walk_at "wp"
          refine w_kLst kn rfl fun o H2 kn => ?_
          refine w_eqE (SqL.of (kn.l 1 rfl)) .nil (n := 0) .nil (by decide) (SqL.of (kn.l 0 rfl)) ?_
          have e : decide (1 ≤ C.cells.length) = true := decide_eq_true (by omega)
          rw [e] at q
          exact q _ kn.fr.toSame
      · walk_at "wp"
        have e : decide (1 ≤ C.cells.length) = false := decide_eq_false (by omega)
        rw [e] at q
        exact q _ kn.fr.toSame
end
end Hue
set_option Elab.async false
set_option linter.all false
set_option maxRecDepth 100000
set_option maxHeartbeats 4000000
set_option autoImplicit false
namespace Hue
open PySem PySem.Spec PyProof.Rows L2
def N_Block_init : List Str := [("self" : Str)]
theorem sc_Block_init : FnScope N_Block_init [("self" : Str)] (defScope s_Block_init) := ⟨rfl, rfl, rfl, by decide +kernel, rfl, by decide +kernel, by decide +kernel⟩
def N_Block_is_bare : List Str := [("self" : Str)]
theorem sc_Block_is_bare : FnScope N_Block_is_bare [("self" : Str)] (defScope s_Block_is_bare) := ⟨rfl, rfl, rfl, by decide +kernel, rfl, by decide +kernel, by decide +kernel⟩
def N_has_goal : List Str := [("words" : Str)]
theorem sc_has_goal : FnScope N_has_goal [("words" : Str)] (defScope s_has_goal) := ⟨rfl, rfl, rfl, by decide +kernel, rfl, by decide +kernel, by decide +kernel⟩
/-! ### blocks: what they say and where they stand -/
structure Blk where
  keys : List Int
  owns : List Ins
  settle : Option Cell
def Blk.bare (B : Blk) : Bool := B.owns.isEmpty && B.settle.isNone
def Blk.many (B : Blk) (h : Int) : Int := B.owns.length * h + (if B.settle.isSome then 1 else 0)
/-- what blocks are built of: sizes, texts -/
structure Blk.Ok (B : Blk) : Prop where
  k : B.keys.length ≤ 10000
  o : B.owns.length ≤ 10000
  v : ∀ i ∈ B.owns, i.its.all okV = true
structure BA where
  b : Addr
  dx : Addr
  kl : Addr
  ol : Addr
  os : List Addr
  ws : List Addr
  sv : V
def Cell.isGoal : Cell → Bool
  | .turn _ _ => true
  | .goto _ => true
  | _ => false
def SetAt (H : Hp) (sv : V) : Option Cell → Prop
  | none => sv = .non
  | some c => ∃ a, sv = .ref a ∧ H a = some (.tup c.its)
structure BlkT (H : Hp) (A : BA) (B : Blk) : Prop where
  o1 : At H A.os (A.ws.map fun w => [.int 5, .ref w])
  o2 : At H A.ws (B.owns.map Ins.its)
  st : SetAt H A.sv B.settle
theorem SetAt.mono {H H' : Hp} (t : TSub H H') {sv : V} : ∀ {s : Option Cell}, SetAt H sv s → SetAt H' sv s
  | none, h => h
  | some _, ⟨a, e, h⟩ => ⟨a, e, t _ _ h⟩
theorem BlkT.mono {H H' : Hp} (t : TSub H H') {A : BA} {B : Blk} (h : BlkT H A B) : BlkT H' A B := ⟨h.o1.mono t, h.o2.mono t, h.st.mono t⟩
theorem BlkT.mo (A : BA) (B : Blk) : Mono fun H => BlkT H A B := fun _ _ t h => h.mono t
def BA.obs (K : PySem.W.Frag) (A : BA) (B : Blk) : Obs := [(A.b, oBlk K A.dx (.ref A.kl) (.ref A.ol) A.sv), (A.kl, .lst (B.keys.map V.int)), (A.ol, .lst (A.os.map V.ref))]
structure BlkAt (K : PySem.W.Frag) (H : Hp) (A : BA) (B : Blk) : Prop where
  ob : ∀ q ∈ A.obs K B, H q.1 = some q.2
  t : BlkT H A B
theorem BlkAt.same {K : PySem.W.Frag} {H H' : Hp} (s : Same H H') {A : BA} {B : Blk} (h : BlkAt K H A B) : BlkAt K H' A B := ⟨fun q hq => s _ _ (h.ob q hq), h.t.mono fun b xs e => s _ _ e⟩
section
variable {K : PySem.W.Frag} {H : Hp} {A : BA} {B : Blk}
theorem BlkAt.hb (h : BlkAt K H A B) : H A.b = some (oBlk K A.dx (.ref A.kl) (.ref A.ol) A.sv) := h.ob _ (by unfold BA.obs; exact List.mem_cons_self)
theorem BlkAt.hk (h : BlkAt K H A B) : H A.kl = some (.lst (B.keys.map V.int)) := h.ob (A.kl, _) (by unfold BA.obs; exact List.mem_cons_of_mem _ List.mem_cons_self)
theorem BlkAt.ho (h : BlkAt K H A B) : H A.ol = some (.lst (A.os.map V.ref)) := h.ob (A.ol, _) (by unfold BA.obs; exact List.mem_cons_of_mem _ (List.mem_cons_of_mem _ List.mem_cons_self))
theorem BlkT.lw (h : BlkT H A B) : A.ws.length = B.owns.length := by
  have := h.o2.len
  simpa using this
theorem BlkT.lo (h : BlkT H A B) : A.os.length = B.owns.length := by
  have e := h.o1.len
  rw [List.length_map, h.lw] at e
  exact e
theorem pairs_dp : ∀ {os ws : List Addr} {is : List Ins}, At H os (ws.map fun w => [V.int 5, V.ref w]) → At H ws (is.map Ins.its) → (∀ i ∈ is, i.its.all okV = true) → DpAll K H (os.map V.ref) (is.map fun i => PyData.tuple [.int 5, tD i.its])
  | [], [], [], _, _, _ => .nil
  | [], [], _ :: _, _, h, _ => by cases h
  | [], _ :: _, _, h, _, _ => by cases h
  | _ :: _, [], _, h, _, _ => by cases h
  | _ :: _, _ :: _, [], _, h, _ => by cases h
  | o :: os, w :: ws, i :: is, h1, h2, h3 => by
    have h1' : H o :: os.map H = some (HO.tup [.int 5, .ref w]) :: (ws.map fun w => [V.int 5, V.ref w]).map (fun xs => some (HO.tup xs)) := h1
    have h2' : H w :: ws.map H = some (HO.tup i.its) :: (is.map Ins.its).map (fun xs => some (HO.tup xs)) := h2
    injection h1' with e1 e2
    injection h2' with f1 f2
    exact .cons (.tup (SqT.of e1) (.cons (.int 5) (.cons (.tup (SqT.of f1) (dpAll_flat (ok_flats (h3 i List.mem_cons_self)))) .nil))) (pairs_dp (os := os) (ws := ws) e2 f2 fun j hj => h3 j (List.mem_cons_of_mem _ hj))
theorem pairs_nd {is : List Ins} (h : ∀ i ∈ is, i.its.all okV = true) : NDs 2 (is.map fun i => PyData.tuple [.int 5, tD i.its]) :=
  .map fun i hi => (NDs.cons (.int) (NDs.cons ((NDs.flat (n := 0) (h i hi)).tuple) .nil)).tuple
theorem BlkT.bare_eq (h : BlkT H A B) : A.os.isEmpty = B.owns.isEmpty := isEmpty_len h.lo
end
def rInit (K : PySem.W.Frag) : V → Hp → VK → XK → Prop := fun x H Q _ => ∃ b dx, x = .ref b ∧ H b = some (.ins (He.ga K "Block") dx []) ∧
  ∀ (kl ol : Addr) (H' : Hp), H kl = none → H ol = none → kl ≠ ol → Fm [b] H H' → H' b = some (oBlk K dx (.ref kl) (.ref ol) .non) → H' kl = some (.lst []) → H' ol = some (.lst []) → Q .non H'
def rBare (K : PySem.W.Frag) : V → Hp → VK → XK → Prop := fun x H Q _ => ∃ A B, x = .ref A.b ∧ BlkAt K H A B ∧ B.Ok ∧ ∀ H', Same H H' → Q (.bl B.bare) H'
def rMany (K : PySem.W.Frag) : V → V → Hp → VK → XK → Prop := fun x y H Q _ => ∃ A B h, x = .ref A.b ∧ y = .int h ∧ 1 ≤ h ∧ h ≤ 5 ∧ BlkAt K H A B ∧ B.Ok ∧ ∀ H', Same H H' → Q (.int (B.many h)) H'
def rHasGoal : V → Hp → VK → XK → Prop := fun x H Q _ => ∃ (a : Addr) (c : Cell), x = .ref a ∧ H a = some (.tup c.its) ∧ Q (.bl c.isGoal) H
section
variable {P : Program} {w : World} {K : PySem.W.Frag} {mg : Str → Option Value} {base : Heap}
theorem ok_Block_init (D : MetAt K (He.ma K (He.ga K "Block") "__init__") "__init__" "Block.__init__" s_Block_init) (T : Txt K mg) : CalM P w K mg base CX0 1 (He.ma K (He.ga K "Block") "__init__") [("self" : Str)] (Sp1 (rInit K)) := by
  refine calM_of D sc_Block_init (fun _ _ _ _ _ _ us hl => match us, hl with | [_], _ => rfl) (fun vs H Q E h => ?_) (fun cdv A outer s H vs Q E hr h => ⟨_, PSs.nox ((pss_cons (ps_fld (pv 0) (pe_lst pa_nil) rfl)
      (pss_cons (ps_fld (pv 0) (pe_lst pa_nil) rfl)
      (pss_one (ps_fld (pv 0) pe_non rfl))))), ?_⟩)
  · obtain ⟨a, rfl, _⟩ := h
    rfl
  · obtain ⟨x, rfl, b, dx, rfl, hb, q⟩ := h
    have kn : Kn H [b] [] H [(b, .ins (He.ga K "Block") dx [])] [] (fun _ => True) := .start (by simp) (by simp) (fun p hp => by
      have e : p = (b, HO.ins (He.ga K "Block") dx []) := by simpa using hp
      rw [e] <;> rfl) (fun p hp => by
      have e : p = (b, HO.ins (He.ga K "Block") dx []) := by simpa using hp
      rw [e]
      exact hb) (fun p hp => by
      have e : p = (b, HO.ins (He.ga K "Block") dx []) := by simpa using hp
      rw [e]
      exact List.mem_cons_self) (by simp) trivial mono_true
    walk_at "wp"
    refine w_kLst kn rfl fun kl H1 kn => ?_
    walk_at "wp"
    refine ⟨b, _, dx, _, rfl, kn.l 1 rfl, T.clBlock, T.n_b_keys, by show 0 < 1000; decide, ?_⟩
    have kn := kn.put (i := 1) (.ins (He.ga K "Block") dx [(("b_keys" : Str), V.ref kl)]) rfl rfl
    walk_at "pm"
    have e1 : putF "b_keys" (V.ref kl) [] = [(("b_keys" : Str), V.ref kl)] := rfl
    rw [e1]
    walk_at "wp"
    refine w_kLst kn rfl fun ol H2 kn => ?_
    walk_at "wp"
    refine ⟨b, _, dx, _, rfl, kn.l 2 rfl, T.clBlock, T.n_b_owns, by show 1 < 1000; decide, ?_⟩
    have kn := kn.put (i := 2) (.ins (He.ga K "Block") dx [(("b_keys" : Str), V.ref kl), (("b_owns" : Str), V.ref ol)]) rfl rfl
    walk_at "pm"
    have e2 : putF "b_owns" (V.ref ol) [(("b_keys" : Str), V.ref kl)] = [(("b_keys" : Str), V.ref kl), (("b_owns" : Str), V.ref ol)] := by
      unfold putF
      rw [if_neg (show ¬ ((("b_keys" : Str)) = ("b_owns" : Str)) from by decide +kernel)] <;> rfl
    rw [e2]
    walk_at "wp"
    refine ⟨b, _, dx, _, rfl, kn.l 2 rfl, T.clBlock, T.n_b_settle, by show 2 < 1000; decide, ?_⟩
    have kn := kn.put (i := 2) (oBlk K dx (.ref kl) (.ref ol) .non) rfl rfl
    walk_at "pm"
    have e3 : putF "b_settle" V.non [(("b_keys" : Str), V.ref kl), (("b_owns" : Str), V.ref ol)] = blkF (.ref kl) (.ref ol) .non := by
      unfold putF
      rw [if_neg (show ¬ ((("b_keys" : Str)) = ("b_settle" : Str)) from by decide +kernel)]
      unfold putF
      rw [if_neg (show ¬ ((("b_owns" : Str)) = ("b_settle" : Str)) from by decide +kernel)] <;> rfl
    rw [e3]
    have nb : ∀ (i : Nat) (p : Addr) (o : HO), [(ol, HO.lst []), (kl, .lst []), (b, oBlk K dx (.ref kl) (.ref ol) .non)][i]? = some (p, o) → i < 2 → H p = none := fun i p o e hi => by
      rcases kn.own _ (List.mem_of_getElem? e) with z | z
      · have z : p = b := by simpa using z
        have := kn.ne i 2 e rfl (by omega)
        exact absurd z this
      · exact z
    exact q kl ol _ (nb 1 kl _ rfl (by decide)) (nb 0 ol _ rfl (by decide)) (kn.ne 1 0 rfl rfl (by decide)) kn.fr (kn.l 2 rfl) (kn.l 1 rfl) (kn.l 0 rfl)
theorem ok_Block_is_bare (D : MetAt K (He.ma K (He.ga K "Block") "is_bare") "is_bare" "Block.is_bare" s_Block_is_bare) (T : Txt K mg) : CalM P w K mg base CX0 1 (He.ma K (He.ga K "Block") "is_bare") [("self" : Str)] (Sp1 (rBare K)) := by
  refine calM_of D sc_Block_is_bare (fun _ _ _ _ _ _ us hl => match us, hl with | [_], _ => rfl) (fun vs H Q E h => ?_) (fun cdv A outer s H vs Q E hr h => ⟨_, PSs.nox ((pss_one (ps_ret (pe_and (pe_cmpR (op_eqDK (K := K) hr.units) (pe_fldK (K := K) (pv 0) rfl) (pe_lst pa_nil) (nomark _)) (pe_one (pe_cmpR op_isN1 (pe_fldK (K := K) (pv 0) rfl) pe_non (nomark _))))))), ?_⟩)
  · obtain ⟨a, rfl, _⟩ := h
    rfl
  · obtain ⟨x, rfl, A, B, rfl, hB, hok, q⟩ := h
    have kn := (Kn.start0 (H0 := H)).imp (BlkT.mo A B) fun _ => hB.t
    have hb := hB.hb
    walk_at "wp"
    refine w_kLst kn rfl fun o H1 kn => ?_
    have hB := hB.same kn.fr.toSame
    have hb := hB.hb
    refine w_eqE (SqL.of hB.ho) (pairs_dp hB.t.o1 hB.t.o2 hok.v) (pairs_nd hok.v) (by decide) (SqL.of (kn.l 0 rfl)) ?_
    rw [isEmpty_map, hB.t.bare_eq]
    walk_at "wp"
    unfold Blk.bare at q
    cases e : B.owns.isEmpty with
    | false =>
      rw [e] at q
      walk_at "wp"
      exact q _ kn.fr.toSame
    | true =>
      rw [e] at q
      walk_at "wp"
      have hst := hB.t.st
      cases e2 : B.settle with
      | none =>
        rw [e2] at q hst
        have e3 : A.sv = .non := hst
        rw [e3]
        walk_at "wp"
        exact q _ kn.fr.toSame
      | some c =>
        rw [e2] at q hst
        obtain ⟨a, e3, _⟩ := hst
        rw [e3]
        walk_at "wp"
        exact q _ kn.fr.toSame
theorem ok_has_goal (D : DefAt K mg "has_goal" s_has_goal) (T : Txt K mg) : Cal P w K mg base CX0 1 "has_goal" [("words" : Str)] (Sp1 rHasGoal) := by
  refine cal_of D sc_has_goal (fun _ _ _ _ _ _ us hl => match us, hl with | [_], _ => rfl) (fun vs H Q E h => ?_) (fun f cdv A outer s H vs Q E hr h => ⟨_, PSs.nox ((pss_one (ps_ret (pe_or (pe_cmpR op_eq (pe_ix (ix_tupK (K := K)) (pv 0) pe_int (fun _ _ => rfl)) pe_str (nomark _)) (pe_one (pe_cmpR op_eq (pe_ix (ix_tupK (K := K)) (pv 0) pe_int (fun _ _ => rfl)) pe_str (nomark _))))))), ?_⟩)
  · obtain ⟨a, rfl, _⟩ := h
    rfl
  · obtain ⟨x, rfl, a, cc, rfl, ha, q⟩ := h
    cases cc with
    | ins j i =>
      have kn := Kn.start1 (xs := .int j :: i.its) ha
      walk_at "wp"
      refine w_ixT (SqT.of (kn.t 0 rfl)) atI_0 ?_
      walk_at "wp"
      refine w_ixT (SqT.of (kn.t 0 rfl)) atI_0 ?_
      walk_at "wp"
      exact q
    | stop =>
      have kn := Kn.start1 (xs := [.str "stop"]) ha
      walk_at "wp"
      exact q
    | mark =>
      have kn := Kn.start1 (xs := [.str "mark"]) ha
      walk_at "wp"
      exact q
    | goto g =>
      have kn := Kn.start1 (xs := [.str "goto", .int g]) ha
      walk_at "wp"
      exact q
    | shw p wd =>
      have kn := Kn.start1 (xs := [.str "show", .int p, .int wd]) ha
      walk_at "wp"
      exact q
    | turn g wd =>
      have kn := Kn.start1 (xs := [.str "turn", .int g, .int wd]) ha
      walk_at "wp"
      exact q
    | take b wd =>
      have kn := Kn.start1 (xs := [.str "take", .int b, .int wd]) ha
      walk_at "wp"
      exact q
end
end Hue
set_option Elab.async false
set_option linter.all false
set_option maxRecDepth 100000
set_option maxHeartbeats 4000000
set_option autoImplicit false
namespace Hue
open PySem PySem.Spec PyProof.Rows L2
def N_Block_many : List Str := [("self" : Str), ("hues" : Str), ("own" : Str), ("width" : Str), ("words" : Str)]
theorem sc_Block_many : FnScope N_Block_many [("self" : Str), ("hues" : Str)] (defScope s_Block_many) := ⟨rfl, rfl, rfl, by decide +kernel, rfl, by decide +kernel, by decide +kernel⟩
def N_begin_at : List Str := [("found" : Str), ("key" : Str)]
theorem sc_begin_at : FnScope N_begin_at [("found" : Str), ("key" : Str)] (defScope s_begin_at) := ⟨rfl, rfl, rfl, by decide +kernel, rfl, by decide +kernel, by decide +kernel⟩
theorem sum_rep (h : Int) : ∀ n : Nat, (List.replicate n h).sum = n * h
  | 0 => by simp
  | n + 1 => by
    rw [List.replicate_succ, List.sum_cons, sum_rep h n]
    push_cast
    rw [Int.add_mul, Int.one_mul, Int.add_comm]
theorem rep_snoc (n : Nat) (h : Int) : (List.replicate n h).map V.int ++ [V.int h] = (List.replicate (n + 1) h).map V.int := by
  rw [List.replicate_succ', List.map_append]
  rfl
def rBeginAt (K : PySem.W.Frag) : V → V → Hp → VK → XK → Prop := fun x y H Q _ => ∃ (fo : Addr) (key : Int) (pre : List V) (A : BA) (B : Blk), x = .ref fo ∧ y = .int key ∧ H fo = some (.lst (pre ++ [.ref A.b])) ∧ pre.length ≤ 10000 ∧ BlkAt K H A B ∧ B.Ok ∧ fo ≠ A.kl ∧ A.ol ≠ fo ∧ A.ol ≠ A.kl ∧
  (B.bare = true → ∀ H', Fm [fo, A.kl] H H' → H' fo = some (.lst (pre ++ [.ref A.b])) → H' A.kl = some (.lst ((B.keys ++ [key]).map V.int)) → Q .non H') ∧
  (B.bare = false → ∀ (b dx kl ol : Addr) (H' : Hp), H b = none → H kl = none → H ol = none → b ≠ kl → b ≠ ol → kl ≠ ol → Fm [fo, A.kl] H H' → H' fo = some (.lst (pre ++ [.ref A.b, .ref b])) → H' A.kl = some (.lst (B.keys.map V.int)) →
    H' b = some (oBlk K dx (.ref kl) (.ref ol) .non) → H' kl = some (.lst [.int key]) → H' ol = some (.lst []) → Q .non H')
/-- a new block in a list of what is known -/
theorem w_mkB {K : PySem.W.Frag} {H0 H : Hp} {M : List Addr} {R L : Obs} {T : Tps} {P : Hp → Prop} {Q : VK} {E : XK} (kn : Kn H0 M R H L T P)
    (h : ∀ (b dx kl ol : Addr) (H' : Hp), Kn H0 M R H' ((b, oBlk K dx (.ref kl) (.ref ol) .non) :: (kl, .lst []) :: (ol, .lst []) :: L) T P → Q (.ref b) H') : kMake (He.ga K "Block") (Sp1 (rInit K)) E [] H Q := by
  intro b dx hb hd ne
  refine ⟨.ref b, rfl, b, dx, rfl, upd_same, fun kl ol H' hkl hol hne fm e1 e2 e3 => ⟨rfl, ?_⟩⟩
  have kn1 := kn.new (.own b) hd rfl
  have hb1 : upd H dx (.own b) b = none := by
    rw [upd_ne (fun z => ne z.symm)]
    exact hb
  have kn2 := kn1.new (.ins (He.ga K "Block") dx []) hb1 rfl
  have kn3 := kn2.frame (N := [b]) (L' := (b, oBlk K dx (.ref kl) (.ref ol) .non) :: (dx, .own b) :: L) fm (fun z hz => by
    have e : z = b := by simpa using hz
    rw [e]
    exact List.mem_cons_self) rfl (fun q hq => by
      rcases List.mem_cons.mp hq with e | hq
      · rw [e] <;> rfl
      · exact kn2.nt q (List.mem_cons_of_mem _ hq)) (fun q hq => by
      rcases List.mem_cons.mp hq with e | hq
      · rw [e]
        exact .inr e1
      · refine .inl ⟨fun z => ?_, List.mem_cons_of_mem _ hq⟩
        have e : q.1 = b := by simpa using z
        have nd := (List.nodup_cons.mp kn2.nd).1
        have hm : q.1 ∈ ((dx, HO.own b) :: L).map (·.1) := List.mem_map.mpr ⟨q, hq, rfl⟩
        rw [e] at hm
        exact nd hm)
  have kn4 := kn2.add kn3 rfl hol e3 rfl
  have kn5 : Kn H0 M R H' ((kl, .lst []) :: (ol, .lst []) :: (b, oBlk K dx (.ref kl) (.ref ol) .non) :: (dx, .own b) :: L) T P := by
    have nk : kl ∉ ((ol, HO.lst []) :: (b, oBlk K dx (.ref kl) (.ref ol) .non) :: (dx, .own b) :: L).map (·.1) := fun z => by
      rcases List.mem_cons.mp z with e | z
      · exact hne e
      · exact kn2.notin hkl z
    refine ⟨kn4.fr, kn4.ro, List.nodup_cons.mpr ⟨nk, kn4.nd⟩, fun q hq => ?_, fun q hq => ?_, fun q hq => ?_, kn4.ta, kn4.pp, kn4.mono⟩
    · rcases List.mem_cons.mp hq with e | hq
      · rw [e] <;> rfl
      · exact kn4.nt q hq
    · rcases List.mem_cons.mp hq with e | hq
      · rw [e]
        exact e2
      · exact kn4.ats q hq
    · rcases List.mem_cons.mp hq with e | hq
      · rw [e]
        exact kn2.free0 hkl
      · exact kn4.own q hq
  have kn6 := kn5.pmn 4 [2, 0, 1] (by decide) (by decide)
  exact h b dx kl ol H' kn6
section
variable {P : Program} {w : World} {K : PySem.W.Frag} {mg : Str → Option Value} {base : Heap}
theorem ok_Block_many (D : MetAt K (He.ma K (He.ga K "Block") "many") "many" "Block.many" s_Block_many) (T : Txt K mg) : CalM P w K mg base CX0 1 (He.ma K (He.ga K "Block") "many") [("self" : Str), ("hues" : Str)] (Sp2 (rMany K)) := by
  refine calM_of D sc_Block_many (fun _ _ _ _ _ _ us hl => match us, hl with | [_, _], _ => rfl) (fun vs H Q E h => ?_) (fun cdv A outer s H vs Q E hr h => ⟨_, PSs.nox ((pss_cons (ps_set (i := 2) sc_Block_many.nd rfl (Or.inl rfl) (pe_callB (cr_sumK (K := K) rfl) (by rfl) T.b_sum (by decide +kernel) (pa_cons (pe_lc (own := [("width", 3), ("words", 4)]) rfl sc_Block_many.nd (pi_listK (K := K) (pe_fldK (K := K) (pv 0) rfl)) (blkOk_by (own := [("width", 3), ("words", 4)]) (N := N_Block_many) (sc := defScope s_Block_many) (by decide +kernel)) (fun _ _ _ _ _ => (pg_tupK (K := K) (n := 2) rfl (pgs_cons (pg_name (i := 3) sc_Block_many.nd rfl (by first | exact Or.inl rfl | exact Or.inr rfl)) (pgs_cons (pg_name (i := 4) sc_Block_many.nd rfl (by first | exact Or.inl rfl | exact Or.inr rfl)) pgs_nil)))) (fun _ _ _ _ _ => pts_nil) (fun _ _ _ _ _ => by exact (pe_callB (cr_min2 rfl) (by rfl) T.b_min (by decide +kernel) (pa_cons (pv 3) (pa_cons (pv 1) pa_nil))))) pa_nil)))
      (pss_one (ps_ret (pe_ifExp (pt_cmpR op_isN1 (pe_fldK (K := K) (pv 0) rfl) pe_non (nomark _)) (pv 2) (pe_op op_add (pv 2) pe_int)))))), ?_⟩)
  · obtain ⟨a, b, rfl, _⟩ := h
    rfl
  · obtain ⟨x, y, rfl, A, B, h, rfl, rfl, h1, h5, hB, hok, q⟩ := h
    have kn := (Kn.start0 (H0 := H)).imp (BlkT.mo A B) fun _ => hB.t
    have hb := hB.hb
    have hm : (if h < 5 then h else 5) = h := by
      by_cases z : h < 5
      · rw [if_pos z]
      · rw [if_neg z]
        omega
    walk_at "wp"
    refine w_lcL kn (SqL.of hB.ho) (fun D i H' => Kn H [] [] H' [(D, .lst ((List.replicate i h).map V.int))] [] (fun H => BlkT H A B)) (fun D H' kn => kn) (fun D i H' _ kn => SqL.of (hB.same kn.fr.toSame).ho) (fun D i x H' hx hi kn => ?_) (fun D H' kn => ?_)
    · obtain ⟨o, eo, rfl⟩ := At.refs hx
      obtain ⟨its, e1, ho⟩ := kn.pp.o1.get' eo
      rw [List.getElem?_map] at e1
      obtain ⟨wd, _, rfl⟩ := Option.map_eq_some_iff.mp e1
      have kn := kn.tps (T' := [(o, [.int 5, .ref wd])]) (fun q hq => by
        have e : q = (o, [V.int 5, V.ref wd]) := by simpa using hq
        rw [e]
        exact ho)
      rw [List.length_map, hB.t.lo] at hi
      have := hok.o
      walk_at "wp"
      rw [hm]
      refine w_kAcc kn 0 rfl (by rw [List.length_map, List.length_replicate]; omega) fun H2 kn => ?_
      rw [rep_snoc] at kn
      exact kn.noT
    · rw [List.length_map, hB.t.lo] at kn
      walk_at "wp"
      refine w_sum (SqL.of (kn.l 0 rfl)) ?_
      rw [sum_rep]
      have hB := hB.same kn.fr.toSame
      have hb := hB.hb
      walk_at "wp"
      have hst := hB.t.st
      unfold Blk.many at q
      cases e2 : B.settle with
      | none =>
        rw [e2] at q hst
        have e3 : A.sv = .non := hst
        rw [e3]
        walk_at "wp"
        have e4 : (B.owns.length : Int) * h + (if (none : Option Cell).isSome = true then 1 else 0) = B.owns.length * h := Int.add_zero _
        rw [e4] at q
        exact q _ kn.fr.toSame
      | some c =>
        rw [e2] at q hst
        obtain ⟨a, e3, _⟩ := hst
        rw [e3]
        walk_at "wp"
        exact q _ kn.fr.toSame
theorem ok_begin_at (D : DefAt K mg "begin_at" s_begin_at) (T : Txt K mg) (M_Block_is_bare : CalM P w K mg base CX0 1 (He.ma K (He.ga K "Block") "is_bare") [("self" : Str)] (Sp1 (rBare K)))
    (M_Block_init : CalM P w K mg base CX0 1 (He.ma K (He.ga K "Block") "__init__") [("self" : Str)] (Sp1 (rInit K))) : Cal P w K mg base CX0 3 "begin_at" [("found" : Str), ("key" : Str)] (Sp2 (rBeginAt K)) := by
  refine cal_of D sc_begin_at (fun _ _ _ _ _ _ us hl => match us, hl with | [_, _], _ => rfl) (fun vs H Q E h => ?_) (fun f cdv A outer s H vs Q E hr h => ⟨_, PSs.nox ((C8.pss_cut (ps_if (pt_not (pt_val (pe_mth0 (pe_ix (ix_listK (K := K)) (pv 0) (pe_un un_neg pe_int) (fun _ _ => rfl)) T.clBlock T.m_is_bare M_Block_is_bare hr (by decide) pass0))) (pss_one (ps_expr (pe_bmK (K := K) PySem.F.plainAttrs_list PySem.F.slot_list_append PySem.F.type_list_append mt_append (pv 0) (pa_cons (pe_mk0 T.mkBlock M_Block_init hr (by decide) (by rfl) T.gBlock pass0) pa_nil)))) pss_nil)
      (pss_one (ps_expr (pe_bmK (K := K) PySem.F.plainAttrs_list PySem.F.slot_list_append PySem.F.type_list_append mt_append (pe_fldK (K := K) (pe_ix (ix_listK (K := K)) (pv 0) (pe_un un_neg pe_int) (fun _ _ => rfl)) rfl) (pa_cons (pv 1) pa_nil)))))), ?_⟩)
  · obtain ⟨a, b, rfl, _⟩ := h
    rfl
  · obtain ⟨x, y, rfl, fo, key, pre, A, B, rfl, rfl, hfo, hpl, hB, hok, n1, n2, n3, q1, q2⟩ := h
    have hb := hB.hb
    have nb1 : A.b ≠ fo := ne_of hb hfo (by intro z; cases z)
    have nb2 : A.b ≠ A.kl := ne_of hb hB.hk (by intro z; cases z)
    have kn : Kn H [fo, A.kl] [(A.b, oBlk K A.dx (.ref A.kl) (.ref A.ol) A.sv), (A.ol, .lst (A.os.map V.ref))] H [(fo, .lst (pre ++ [.ref A.b])), (A.kl, .lst (B.keys.map V.int))] [] (fun H => BlkT H A B) := .start (fun p hp => by
        simp only [List.mem_cons, List.not_mem_nil, or_false] at hp ⊢
        rcases hp with e | e <;> rw [e]
        · exact ⟨hb, by simp [nb1, nb2]⟩
        · exact ⟨hB.ho, by simp [n2, n3]⟩) (by simp [n1]) (fun p hp => by
        simp only [List.mem_cons, List.not_mem_nil, or_false] at hp
        rcases hp with e | e <;> rw [e] <;> rfl) (fun p hp => by
        simp only [List.mem_cons, List.not_mem_nil, or_false] at hp
        rcases hp with e | e <;> rw [e]
        · exact hfo
        · exact hB.hk) (fun p hp => by
        simp only [List.mem_cons, List.not_mem_nil, or_false] at hp ⊢
        rcases hp with e | e <;> rw [e]
        · exact .inl rfl
        · exact .inr rfl) (by simp) hB.t (BlkT.mo A B)
    have hkl := hok.k
    refine ⟨fun σ' H' => σ' = [some (.ref fo), some (.int key)] ∧ ((B.bare = true ∧ Kn H [fo, A.kl] [(A.b, oBlk K A.dx (.ref A.kl) (.ref A.ol) A.sv), (A.ol, .lst (A.os.map V.ref))] H' [(fo, .lst (pre ++ [.ref A.b])), (A.kl, .lst (B.keys.map V.int))] [] (fun H => BlkT H A B)) ∨
        (B.bare = false ∧ ∃ b dx kl ol, Kn H [fo, A.kl] [(A.b, oBlk K A.dx (.ref A.kl) (.ref A.ol) A.sv), (A.ol, .lst (A.os.map V.ref))] H' [(b, oBlk K dx (.ref kl) (.ref ol) .non), (kl, .lst []), (ol, .lst []), (fo, .lst (pre ++ [.ref A.b, .ref b])), (A.kl, .lst (B.keys.map V.int))] [] (fun H => BlkT H A B))), ?_, fun σ' H' hm => ?_⟩
    · walk_at "wp"
      refine w_ixL (SqL.of (kn.l 0 rfl)) (atI_last _ _) ?_
      walk_at "wp"
      refine ⟨_, rfl, A, B, rfl, hB, hok, fun H1 s1 => ?_⟩
      have kn := kn.same s1
      walk_at "wp"
      cases eb : B.bare with
      | true =>
        walk_at "wp"
        exact ⟨rfl, .inl ⟨rfl, kn⟩⟩
      | false =>
        walk_at "wp"
        refine w_mkB kn fun b dx kl ol H2 kn => ?_
        walk_at "wp"
        refine w_append kn 3 rfl (by rw [List.length_append]; show pre.length + 1 ≤ _; omega) fun H3 kn => ?_
        walk_at "pm"
        rw [List.append_assoc] at kn
        walk_at "wp"
        exact ⟨rfl, .inr ⟨rfl, b, dx, kl, ol, kn⟩⟩
    · obtain ⟨rfl, ⟨eb, kn⟩ | ⟨eb, b, dx, kl, ol, kn⟩⟩ := hm
      · walk_at "wp"
        refine w_ixL (SqL.of (kn.l 0 rfl)) (atI_last _ _) ?_
        walk_at "wp"
        refine w_append kn 1 rfl (by rw [List.length_map]; omega) fun H3 kn => ?_
        rw [map_snoc] at kn
        walk_at "wp"
        exact q1 eb _ kn.fr (kn.l 0 rfl) (kn.l 1 rfl)
      · have e : pre ++ [V.ref A.b, V.ref b] = (pre ++ [V.ref A.b]) ++ [V.ref b] := by rw [List.append_assoc] <;> rfl
        walk_at "wp"
        refine w_ixL (SqL.of (kn.l 3 rfl)) (by rw [e]; exact atI_last _ _) ?_
        walk_at "wp"
        refine w_append kn 1 rfl (Nat.zero_le _) fun H3 kn => ?_
        walk_at "wp"
        have nw : ∀ (i : Nat) (p : Addr) (o : HO), [(b, oBlk K dx (.ref kl) (.ref ol) .non), (kl, HO.lst ([] ++ [V.int key])), (ol, .lst []), (fo, .lst (pre ++ [.ref A.b, .ref b])), (A.kl, .lst (B.keys.map V.int))][i]? = some (p, o) → i < 3 → H p = none := fun i p o e hi => by
          rcases kn.own _ (List.mem_of_getElem? e) with z | z
          · have z' : p = fo ∨ p = A.kl := by simpa using z
            rcases z' with z | z
            · exact absurd z (kn.ne i 3 e rfl (by omega))
            · exact absurd z (kn.ne i 4 e rfl (by omega))
          · exact z
        exact q2 eb b dx kl ol _ (nw 0 _ _ rfl (by decide)) (nw 1 _ _ rfl (by decide)) (nw 2 _ _ rfl (by decide)) (kn.ne 0 1 rfl rfl (by decide)) (kn.ne 0 2 rfl rfl (by decide)) (kn.ne 1 2 rfl rfl (by decide)) kn.fr (kn.l 3 rfl) (kn.l 4 rfl) (kn.l 0 rfl) (kn.l 1 rfl) (kn.l 2 rfl)
end
end Hue
set_option Elab.async false
set_option linter.all false
set_option maxRecDepth 100000
set_option maxHeartbeats 4000000
set_option autoImplicit false
namespace Hue
open PySem PySem.Spec PyProof.Rows L2
def N_blocks_of : List Str := [("cells" : Str), ("cell" : Str), ("goals" : Str), ("found" : Str), ("address" : Str)]
theorem sc_blocks_of : FnScope N_blocks_of [("cells" : Str)] (defScope s_blocks_of) := ⟨rfl, rfl, rfl, by decide +kernel, rfl, by decide +kernel, by decide +kernel⟩
inductive All2 {α β : Type} (P : α → β → Prop) : List α → List β → Prop
  | nil : All2 P [] []
  | cons {a : α} {b : β} {as : List α} {bs : List β} : P a b → All2 P as bs → All2 P (a :: as) (b :: bs)
theorem All2.imp {α β : Type} {P S : α → β → Prop} (h : ∀ a b, P a b → S a b) : ∀ {as : List α} {bs : List β}, All2 P as bs → All2 S as bs
  | _, _, .nil => .nil
  | _, _, .cons x y => .cons (h _ _ x) (y.imp h)
theorem All2.snoc {α β : Type} {P : α → β → Prop} {a : α} {b : β} (h : P a b) : ∀ {as : List α} {bs : List β}, All2 P as bs → All2 P (as ++ [a]) (bs ++ [b])
  | _, _, .nil => .cons h .nil
  | _, _, .cons x y => .cons x (y.snoc h)
theorem All2.len {α β : Type} {P : α → β → Prop} : ∀ {as : List α} {bs : List β}, All2 P as bs → as.length = bs.length
  | _, _, .nil => rfl
  | _, _, .cons _ y => congrArg Nat.succ y.len
theorem All2.and {α β : Type} {P S : α → β → Prop} : ∀ {as : List α} {bs : List β}, All2 P as bs → All2 S as bs → All2 (fun a b => P a b ∧ S a b) as bs
  | _, _, .nil, .nil => .nil
  | _, _, .cons x y, .cons u v => .cons ⟨x, u⟩ (y.and v)
theorem All2.get {α β : Type} {P : α → β → Prop} : ∀ {as : List α} {bs : List β} {i : Nat} {a : α}, All2 P as bs → as[i]? = some a → ∃ b, bs[i]? = some b ∧ P a b
  | _, _, _, _, .nil, e => by cases e
  | _, _, 0, _, .cons x _, e => by
    cases e
    exact ⟨_, rfl, x⟩
  | _, _, i + 1, _, .cons _ y, e => y.get (i := i) e
/-! ### the blocks of some cells -/
def Cell.goal? : Cell → Option Int
  | .turn g _ => some g
  | .goto g => some g
  | _ => none
def goals (cs : List Cell) : List Int := cs.filterMap Cell.goal?
def wide5 : Cell → Cell
  | .shw p _ => .shw p 5
  | .turn g _ => .turn g 5
  | .take b _ => .take b 5
  | c => c
def blk0 : Blk := ⟨[], [], none⟩
def keyB (k : Int) (st : List Blk × Blk) : List Blk × Blk := if st.2.bare = true then (st.1, ⟨st.2.keys ++ [k], st.2.owns, st.2.settle⟩) else (st.1 ++ [st.2], ⟨[k], [], none⟩)
def cellB (c : Cell) (st : List Blk × Blk) : List Blk × Blk := match c with
  | .ins _ i => (st.1, ⟨st.2.keys, st.2.owns ++ [i], st.2.settle⟩)
  | c => (st.1 ++ [⟨st.2.keys, st.2.owns, some (wide5 c)⟩], blk0)
def stepB (gs : List Int) (k : Int) (c : Cell) (st : List Blk × Blk) : List Blk × Blk := cellB c (if k ∈ gs then keyB k st else st)
def runB (gs : List Int) : Int → List Cell → List Blk × Blk → List Blk × Blk
  | _, [], st => st
  | k, c :: cs, st => runB gs (k + 1) cs (stepB gs k c st)
def blocksOf (cs : List Cell) : List Blk := (runB (goals cs) 0 cs ([], blk0)).1 ++ [(runB (goals cs) 0 cs ([], blk0)).2]
/-! ### in the heap -/
theorem Kn.fr2 {H0 H H' : Hp} {M : List Addr} {R L : Obs} {T : Tps} {P : Hp → Prop} {p q : Addr} {o o' u u' : HO} (kn : Kn H0 M R H ((p, o) :: (q, u) :: L) T P) (f : Fm [p, q] H H') (h1 : H' p = some o') (h2 : H' q = some u') (t1 : isTup o' = false) (t2 : isTup u' = false) : Kn H0 M R H' ((p, o') :: (q, u') :: L) T P := by
  refine kn.frame f (fun b hb => ?_) rfl (fun z hz => ?_) (fun z hz => ?_)
  · rcases List.mem_cons.mp hb with e | hb
    · rw [e]
      exact List.mem_cons_self
    · have e : b = q := by simpa using hb
      rw [e]
      exact List.mem_cons_of_mem _ List.mem_cons_self
  · rcases List.mem_cons.mp hz with e | hz
    · rw [e]
      exact t1
    · rcases List.mem_cons.mp hz with e | hz
      · rw [e]
        exact t2
      · exact kn.nt z (List.mem_cons_of_mem _ (List.mem_cons_of_mem _ hz))
  · rcases List.mem_cons.mp hz with e | hz
    · rw [e]
      exact .inr h1
    · rcases List.mem_cons.mp hz with e | hz
      · rw [e]
        exact .inr h2
      · refine .inl ⟨fun m => ?_, List.mem_cons_of_mem _ (List.mem_cons_of_mem _ hz)⟩
        have nd := kn.nd
        have n1 := (List.nodup_cons.mp nd).1
        have n2 := (List.nodup_cons.mp (List.nodup_cons.mp nd).2).1
        have hm : z.1 ∈ L.map (·.1) := List.mem_map.mpr ⟨z, hz, rfl⟩
        rcases List.mem_cons.mp m with e | m
        · rw [e] at hm
          exact n1 (List.mem_cons_of_mem _ hm)
        · have e : z.1 = q := by simpa using m
          rw [e] at hm
          exact n2 hm
theorem Kn.adds {H0 H H' : Hp} {M : List Addr} {R L L' : Obs} {T T' : Tps} {P P' : Hp → Prop} (kn : Kn H0 M R H L T P) (kn' : Kn H0 M R H' L' T' P') (hk : L'.map (·.1) = L.map (·.1)) (N : Obs) (nd : (N.map (·.1)).Nodup) (h0 : ∀ q ∈ N, H q.1 = none) (h1 : ∀ q ∈ N, H' q.1 = some q.2) (ht : ∀ q ∈ N, isTup q.2 = false) :
    Kn H0 M R H' (N ++ L') T' P' := by
  refine ⟨kn'.fr, kn'.ro, ?_, fun q hq => ?_, fun q hq => ?_, fun q hq => ?_, kn'.ta, kn'.pp, kn'.mono⟩
  · rw [List.map_append, hk]
    refine List.nodup_append.mpr ⟨nd, kn.nd, fun a ha b hb e => ?_⟩
    obtain ⟨q, hq, rfl⟩ := List.mem_map.mp ha
    rw [← e] at hb
    exact kn.notin (h0 q hq) hb
  · rcases List.mem_append.mp hq with hq | hq
    · exact ht q hq
    · exact kn'.nt q hq
  · rcases List.mem_append.mp hq with hq | hq
    · exact h1 q hq
    · exact kn'.ats q hq
  · rcases List.mem_append.mp hq with hq | hq
    · exact kn.free0 (h0 q hq)
    · exact kn'.own q hq
def rBlocksOf (K : PySem.W.Frag) : V → Hp → VK → XK → Prop := fun x H Q _ => ∃ (ca : Addr) (as : List Addr) (cs : List Cell), x = .ref ca ∧ H ca = some (.tup (as.map V.ref)) ∧ At H as (cs.map Cell.its) ∧ cs.length ≤ 4000 ∧ (∀ c ∈ cs, c.its.all okV = true) ∧
  ∀ (l : Addr) (As : List BA) (H' : Hp), Same H H' → H' l = some (.lst (As.map fun A : BA => V.ref A.b)) → All2 (BlkAt K H') As (blocksOf cs) → (∀ B ∈ blocksOf cs, B.Ok) → Q (.ref l) H'
theorem cut_tail (v : V) (vs : List V) : cutV (v :: vs) (some 1) none = vs := by
  have e : HT.sIx (v :: vs).length 0 (some 1) = 1 := by
    show min 1 (vs.length + 1) = 1
    omega
  unfold cutV
  rw [e]
  show vs.take (vs.length + 1 - 1) = vs
  rw [Nat.add_sub_cancel, List.take_length]
theorem cut_ne (v : V) (vs : List V) (m : Nat) : ¬ (HT.sIx (v :: vs).length 0 (some 1) = 0 ∧ m = (v :: vs).length) := fun z => by
  have e : HT.sIx (v :: vs).length 0 (some 1) = 1 := by
    show min 1 (vs.length + 1) = 1
    omega
  rw [e] at z
  exact absurd z.1 (by decide)
theorem goals_take {cs : List Cell} {i : Nat} {c : Cell} (h : cs[i]? = some c) : goals (cs.take (i + 1)) = goals (cs.take i) ++ c.goal?.toList := by
  unfold goals
  rw [List.take_add_one, h, List.filterMap_append]
  congr 1
/-- what is known in the loop of blocks_of: what the blocks are, the last apart -/
structure BInv (K : PySem.W.Frag) (H0 : Hp) (fo gd : Addr) (kvs : List (Key × V)) (as : List Addr) (cs : List Cell) (n : Nat) (As : List BA) (A : BA) (rest : Obs) (S : List Blk × Blk) (H' : Hp) : Prop where
  s0 : S.2.settle = none
  sv : A.sv = .non
  lk : S.2.keys.length ≤ n
  lo : S.2.owns.length ≤ n
  ld : S.1.length ≤ n
  ov : ∀ i ∈ S.2.owns, i.its.all okV = true
  ok : ∀ B ∈ S.1, B.Ok
  mm : All2 (fun A B => ∀ q ∈ A.obs K B, q ∈ rest) As S.1
  kn : Kn H0 [] [] H' ((fo, .lst (As.map (fun A : BA => V.ref A.b) ++ [.ref A.b])) :: (A.kl, .lst (S.2.keys.map V.int)) :: (A.b, oBlk K A.dx (.ref A.kl) (.ref A.ol) .non) :: (A.ol, .lst (A.os.map V.ref)) :: (gd, .dK kvs) :: rest) []
    (fun H => (At H as (cs.map Cell.its) ∧ BlkT H A S.2) ∧ All2 (BlkT H) As S.1)
theorem mono_all2 {As : List BA} {Bs : List Blk} : Mono fun H => All2 (BlkT H) As Bs := fun _ _ t h => h.imp fun _ _ x => x.mono t
theorem mono_b (as : List Addr) (cs : List Cell) (A : BA) (B : Blk) (As : List BA) (Bs : List Blk) : Mono fun H => (At H as (cs.map Cell.its) ∧ BlkT H A B) ∧ All2 (BlkT H) As Bs := ((At.mo _ _).and2 (BlkT.mo _ _)).and2 mono_all2
theorem BInv.at_ {K : PySem.W.Frag} {H0 : Hp} {fo gd : Addr} {kvs : List (Key × V)} {as : List Addr} {cs : List Cell} {n : Nat} {As : List BA} {A : BA} {rest : Obs} {S : List Blk × Blk} {H' : Hp} (I : BInv K H0 fo gd kvs as cs n As A rest S H') : BlkAt K H' A S.2 where
  ob := fun q hq => by
    unfold BA.obs at hq
    simp only [List.mem_cons, List.not_mem_nil, or_false] at hq
    rcases hq with e | e | e <;> rw [e]
    · rw [I.sv]
      exact I.kn.l 2 rfl
    · exact I.kn.l 1 rfl
    · exact I.kn.l 3 rfl
  t := I.kn.pp.1.2
theorem BInv.ok2 {K : PySem.W.Frag} {H0 : Hp} {fo gd : Addr} {kvs : List (Key × V)} {as : List Addr} {cs : List Cell} {n : Nat} {As : List BA} {A : BA} {rest : Obs} {S : List Blk × Blk} {H' : Hp} (I : BInv K H0 fo gd kvs as cs n As A rest S H') (hn : n ≤ 10000) : S.2.Ok := ⟨Nat.le_trans I.lk hn, Nat.le_trans I.lo hn, I.ov⟩
theorem All2.more {K : PySem.W.Frag} {rest : Obs} {As : List BA} {Bs : List Blk} (h : All2 (fun A B => ∀ q ∈ A.obs K B, q ∈ rest) As Bs) (x y z : Addr × HO) : All2 (fun A B => ∀ q ∈ A.obs K B, q ∈ x :: y :: z :: rest) As Bs :=
  h.imp fun _ _ k q hq => List.mem_cons_of_mem _ (List.mem_cons_of_mem _ (List.mem_cons_of_mem _ (k q hq)))
section
variable {P : Program} {w : World} {K : PySem.W.Frag} {mg : Str → Option Value} {base : Heap}
theorem ok_blocks_of (D : DefAt K mg "blocks_of" s_blocks_of) (T : Txt K mg) (C_has_goal : Cal P w K mg base CX0 1 "has_goal" [("words" : Str)] (Sp1 rHasGoal)) (M_Block_init : CalM P w K mg base CX0 1 (He.ma K (He.ga K "Block") "__init__") [("self" : Str)] (Sp1 (rInit K)))
    (C_begin_at : Cal P w K mg base CX0 3 "begin_at" [("found" : Str), ("key" : Str)] (Sp2 (rBeginAt K))) : Cal P w K mg base CX0 4 "blocks_of" [("cells" : Str)] (Sp1 (rBlocksOf K)) := by
  refine cal_of D sc_blocks_of (fun _ _ _ _ _ _ us hl => match us, hl with | [_], _ => rfl) (fun vs H Q E h => ?_) (fun f cdv A outer s H vs Q E hr h => ⟨_, PSs.nox ((pss_cons (ps_setDc (i := 2) (own := [("cell", 1)]) rfl sc_blocks_of.nd rfl rfl (sw_trueD rfl rfl rfl (by decide +kernel)) (pi_tupK (K := K) (pv 0)) (blkOk_by (own := [("cell", 1)]) (N := N_blocks_of) (sc := defScope s_blocks_of) (by decide +kernel)) (fun _ _ _ _ _ => (pg_name (i := 1) sc_blocks_of.nd rfl (by first | exact Or.inl rfl | exact Or.inr rfl))) (fun _ _ _ _ _ => by exact (pts_one (pt_val (pe_cl C_has_goal hr (by decide) pass0 rfl (pa_cons (pv 1) pa_nil))))) (fun _ _ _ _ _ => by exact (pe_ix (ix_tupK (K := K)) (pv 1) pe_int (fun _ _ => rfl))) (fun _ _ _ _ _ => by exact pe_bl))
      (pss_cons (ps_set (i := 3) sc_blocks_of.nd rfl (Or.inl rfl) (pe_lst (pa_cons (pe_mk0 T.mkBlock M_Block_init hr (by decide) (by rfl) T.gBlock pass0) pa_nil)))
      (pss_cons (ps_for PassesOwn.never rfl (pi_enumT0 (by rfl) T.b_enumerate (pa_cons (pv 0) pa_nil)) (pg_tupK (K := K) (n := 2) rfl (pgs_cons (pg_name (i := 4) sc_blocks_of.nd rfl (Or.inl rfl)) (pgs_cons (pg_name (i := 1) sc_blocks_of.nd rfl (Or.inl rfl)) pgs_nil))) (C8.pss_cut (ps_if (pt_cmp (pc_din (hu_of hr) (pv 4) (pv 2)) (by rfl)) (pss_one (ps_expr (pe_cl C_begin_at hr (by decide) pass0 rfl (pa_cons (pv 3) (pa_cons (pv 4) pa_nil))))) pss_nil)
      (pss_one (ps_if (pt_val (pe_callB (cr_isiK (K := K)) (by rfl) T.b_isinstance (by decide +kernel) (pa_cons (pe_ix (ix_tupK (K := K)) (pv 1) pe_int (fun _ _ => rfl)) (pa_cons (pe_bltn (v := .ty "str") (by rfl) T.b_str (by decide +kernel) rfl) pa_nil)))) (pss_cons (ps_fld (pe_ix (ix_listK (K := K)) (pv 3) (pe_un un_neg pe_int) (fun _ _ => rfl)) (pe_ifExp (pt_cmpR op_eq (pe_callB (cr_lenK (K := K)) (by rfl) T.b_len (by decide +kernel) (pa_cons (pv 1) pa_nil)) pe_int (nomark _)) (pe_op (op_catAK (K := K)) (pe_slice (sl_tupK (K := K)) (pv 1) po_none (po_some pe_int)) (pe_tup (pa_cons (pe_gi rfl T.i_MOST_HUES_laying) pa_nil))) (pv 1)) rfl)
      (pss_one (ps_expr (pe_bmK (K := K) PySem.F.plainAttrs_list PySem.F.slot_list_append PySem.F.type_list_append mt_append (pv 3) (pa_cons (pe_mk0 T.mkBlock M_Block_init hr (by decide) (by rfl) T.gBlock pass0) pa_nil))))) (pss_one (ps_expr (pe_bmK (K := K) PySem.F.plainAttrs_list PySem.F.slot_list_append PySem.F.type_list_append mt_append (pe_fldK (K := K) (pe_ix (ix_listK (K := K)) (pv 3) (pe_un un_neg pe_int) (fun _ _ => rfl)) rfl) (pa_cons (pe_tup (pa_cons (pe_gi rfl T.i_MOST_HUES_laying) (pa_cons (pe_slice (sl_tupK (K := K)) (pv 1) (po_some pe_int) po_none) pa_nil))) pa_nil))))))))
      (pss_one (ps_ret (pv 3))))))), ?_⟩)
  · obtain ⟨a, rfl, _⟩ := h
    rfl
  · obtain ⟨x, rfl, ca, as, cs, rfl, hca, hat, hln, hok, q⟩ := h
    have kn := (Kn.start1 hca).imp (At.mo as (cs.map Cell.its)) fun _ => hat
    walk_at "wp"
    have mo1 : Mono fun H => At H as (cs.map Cell.its) := At.mo _ _
    refine w_dcT kn (SqT.of (kn.t 0 rfl)) (fun D i H' => ∃ kvs : List (Key × V), kvs.length ≤ i ∧ (∀ k : Int, (valV kvs (Sum.inl k : Key)).isSome = true ↔ k ∈ goals (cs.take i)) ∧ Kn H [] [] H' [(D, .dK kvs)] [(ca, as.map V.ref)] (fun H => At H as (cs.map Cell.its)))
      (fun D H' kn => ⟨[], Nat.le_refl _, fun k => ⟨fun z => (by cases z), fun z => (by cases z)⟩, kn⟩) (fun D i H' _ hp => ?_) (fun D i x H' hx hi hp => ?_) (fun gd H' hp => ?_)
    · obtain ⟨_, _, _, kn⟩ := hp
      exact SqT.of (kn.t 0 rfl)
    · obtain ⟨kvs, hl, hk, kn⟩ := hp
      obtain ⟨b, eb, rfl⟩ := At.refs hx
      obtain ⟨its, e1, hb⟩ := kn.pp.get' eb
      rw [List.getElem?_map] at e1
      obtain ⟨cc, ec, rfl⟩ := Option.map_eq_some_iff.mp e1
      have hi4 : i < 4000 := by
        have := (List.getElem?_eq_some_iff.mp ec).1
        omega
      have same : cc.goal? = none → ∀ k : Int, (valV kvs (Sum.inl k : Key)).isSome = true ↔ k ∈ goals (cs.take (i + 1)) := fun e k => by
        rw [goals_take ec, e]
        show _ ↔ k ∈ goals (cs.take i) ++ []
        rw [List.append_nil]
        exact hk k
      have more : ∀ g : Int, cc.goal? = some g → ∀ k : Int, (valV (putK kvs (Sum.inl g : Key) (.bl true)) (Sum.inl k : Key)).isSome = true ↔ k ∈ goals (cs.take (i + 1)) := fun g e k => by
        rw [goals_take ec, e, valV_put]
        show _ ↔ k ∈ goals (cs.take i) ++ [g]
        by_cases hkg : k = g
        · rw [if_pos (by rw [hkg]), hkg]
          exact ⟨fun _ => List.mem_append_right _ List.mem_cons_self, fun _ => rfl⟩
        · rw [if_neg (fun z => hkg (Sum.inl.inj z)), hk k, List.mem_append]
          exact ⟨.inl, fun z => z.elim id fun z => absurd (by simpa using z) hkg⟩
      walk_at "wp"
      refine ⟨b, cc, rfl, hb, ?_⟩
      have kn' := kn
      cases cc with
      | turn g wd =>
        have kn := kn.tps (T' := [(b, [.str "turn", .int g, .int wd]), (ca, as.map V.ref)]) (fun q hq => by
          simp only [List.mem_cons, List.not_mem_nil, or_false] at hq
          rcases hq with e | e <;> rw [e]
          · exact hb
          · exact kn'.t 0 rfl)
        walk_at "wp"
        refine w_kAccD kn 0 rfl (by omega) fun H3 kn => ?_
        exact ⟨_, Nat.le_trans (length_putK _ _ _) (Nat.succ_le_succ hl), more g rfl, kn.tps fun q hq => by
          have e : q = (ca, as.map V.ref) := by simpa using hq
          rw [e]
          exact kn.t 1 rfl⟩
      | goto g =>
        have kn := kn.tps (T' := [(b, [.str "goto", .int g]), (ca, as.map V.ref)]) (fun q hq => by
          simp only [List.mem_cons, List.not_mem_nil, or_false] at hq
          rcases hq with e | e <;> rw [e]
          · exact hb
          · exact kn'.t 0 rfl)
        walk_at "wp"
        refine w_kAccD kn 0 rfl (by omega) fun H3 kn => ?_
        exact ⟨_, Nat.le_trans (length_putK _ _ _) (Nat.succ_le_succ hl), more g rfl, kn.tps fun q hq => by
          have e : q = (ca, as.map V.ref) := by simpa using hq
          rw [e]
          exact kn.t 1 rfl⟩
      | _ =>
        walk_at "wp"
        exact ⟨kvs, Nat.le_succ_of_le hl, same rfl, kn⟩
    · obtain ⟨kvs, hl, hk, kn⟩ := hp
      rw [List.length_map] at hk
      have las : as.length = cs.length := by
        have := hat.len
        simpa using this
      rw [las, List.take_length] at hk
      walk_at "wp"
      refine w_mkB kn fun b0 dx0 kl0 ol0 H2 kn => ?_
      walk_at "wp"
      refine w_kLst kn rfl fun fo H3 kn => ?_
      have kn := kn.pmn 5 [0, 2, 1, 3, 4] (by decide) (by decide)
      walk_at "pm"
      walk_at "wp"
      refine w_forEn (SqT.of (kn.t 0 rfl)) (fun i σ' H' => ∃ (a1 a4 : Option V) (S : List Blk × Blk) (As : List BA) (A : BA) (rest : Obs), σ' = [some (.ref ca), a1, some (.ref gd), some (.ref fo), a4] ∧ runB (goals cs) i (cs.drop i) S = runB (goals cs) 0 cs ([], blk0) ∧ BInv K H fo gd kvs as cs (2 * i) As A rest S H')
        ⟨none, none, ([], blk0), [], ⟨b0, dx0, kl0, ol0, [], [], .non⟩, [], rfl, rfl, ⟨rfl, rfl, Nat.le_refl _, Nat.le_refl _, Nat.le_refl _, (fun i hi => by cases hi), (fun i hi => by cases hi), .nil, (kn.imp (mono_b as cs ⟨b0, dx0, kl0, ol0, [], [], .non⟩ blk0 [] []) fun h => ⟨⟨h, .nil, .nil, rfl⟩, .nil⟩).noT⟩⟩ (fun i σ' H' _ hp => ?_) (fun i x σ' H' p hx hi hp hp0 => ?_) (fun σ' H' hp => ?_)
      · obtain ⟨_, _, _, _, _, _, _, _, I⟩ := hp
        exact SqT.of (I.kn.fr.toSame _ _ hca)
      · obtain ⟨a1, a4, S, As, A, rest, rfl, hrun, I⟩ := hp
        rw [List.length_map, las] at hi
        obtain ⟨bc, ebc, rfl⟩ := At.refs hx
        obtain ⟨its, e1, hbc⟩ := I.kn.pp.1.1.get' ebc
        rw [List.getElem?_map] at e1
        obtain ⟨cc, ec, rfl⟩ := Option.map_eq_some_iff.mp e1
        have hcok := hok cc (List.mem_of_getElem? ec)
        have hd : cs.drop i = cc :: cs.drop (i + 1) := by
          rw [List.drop_eq_getElem_cons hi]
          rw [(List.getElem?_eq_some_iff.mp ec).2]
        rw [hd] at hrun
        have kn := I.kn.tup [.int (i : Int), .ref bc] hp0
        have I : BInv K H fo gd kvs as cs (2 * i) As A rest S (upd H' p (.tup [.int (i : Int), .ref bc])) := ⟨I.s0, I.sv, I.lk, I.lo, I.ld, I.ov, I.ok, I.mm, kn.noT⟩
        have hmo : TSub H' (upd H' p (.tup [.int (i : Int), .ref bc])) := tsub_upd_new hp0
        have hbc := hmo _ _ hbc
        have kn := kn.tps (T' := [(p, [.int (i : Int), .ref bc])]) (fun q hq => by
          have e : q = (p, [V.int (i : Int), .ref bc]) := by simpa using hq
          rw [e]
          exact kn.t 0 rfl)
        generalize upd H' p (.tup [.int (i : Int), .ref bc]) = H5 at I kn hbc
        walk_at "wp"
        refine ⟨fun σ' H' => ∃ (As : List BA) (A : BA) (rest : Obs), σ' = [some (.ref ca), some (.ref bc), some (.ref gd), some (.ref fo), some (.int (i : Int))] ∧ H' bc = some (.tup cc.its) ∧ BInv K H fo gd kvs as cs (2 * i + 1) As A rest (if (i : Int) ∈ goals cs then keyB i S else S) H', ?_, fun σ' H' hm => ?_⟩
        · walk_at "wp"
          refine kIf_2 (fun e => ?_) fun e => ?_
          · have hin := (hk i).mp e
            rw [if_pos hin]
            have la := I.mm.len
            have kn0 := I.kn
            walk_at "wp"
            refine ⟨fo, i, As.map (fun A : BA => V.ref A.b), A, S.2, rfl, rfl, I.kn.l 0 rfl, by rw [List.length_map, la]; have := I.ld; omega, I.at_, I.ok2 (by omega), I.kn.ne 0 1 rfl rfl (by decide), I.kn.ne 3 0 rfl rfl (by decide), I.kn.ne 3 1 rfl rfl (by decide), fun eb H6 fm h1 h2 => ?_, fun eb b dx kl ol H6 hb hkl hol d1 d2 d3 fm h1 h2 h3 h4 h5 => ?_⟩
            · walk_at "wp"
              refine ⟨As, A, rest, rfl, fm.tup _ _ hbc, ?_⟩
              unfold keyB
              rw [if_pos eb]
              have kn2 := I.kn.fr2 fm h1 h2 rfl rfl
              exact ⟨I.s0, I.sv, by rw [List.length_append]; have := I.lk; show S.2.keys.length + 1 ≤ _; omega, Nat.le_succ_of_le I.lo, Nat.le_succ_of_le I.ld, I.ov, I.ok, I.mm, kn2.imp (mono_b as cs A ⟨S.2.keys ++ [(i : Int)], S.2.owns, S.2.settle⟩ As S.1) fun h => ⟨⟨h.1.1, h.1.2.o1, h.1.2.o2, h.1.2.st⟩, h.2⟩⟩
            · walk_at "wp"
              refine ⟨As ++ [A], ⟨b, dx, kl, ol, [], [], .non⟩, (A.b, oBlk K A.dx (.ref A.kl) (.ref A.ol) .non) :: (A.kl, .lst (S.2.keys.map V.int)) :: (A.ol, .lst (A.os.map V.ref)) :: rest, rfl, fm.tup _ _ hbc, ?_⟩
              unfold keyB
              rw [if_neg (by rw [eb]; exact Bool.false_ne_true)]
              have kn2 := I.kn.fr2 fm h1 h2 rfl rfl
              have kn3 := I.kn.adds kn2 rfl [(b, oBlk K dx (.ref kl) (.ref ol) .non), (kl, .lst [.int (i : Int)]), (ol, .lst [])] (by simp [d1, d2, d3]) (fun q hq => by
                simp only [List.mem_cons, List.not_mem_nil, or_false] at hq
                rcases hq with e | e | e <;> rw [e]
                · exact hb
                · exact hkl
                · exact hol) (fun q hq => by
                simp only [List.mem_cons, List.not_mem_nil, or_false] at hq
                rcases hq with e | e | e <;> rw [e]
                · exact h3
                · exact h4
                · exact h5) (fun q hq => by
                simp only [List.mem_cons, List.not_mem_nil, or_false] at hq
                rcases hq with e | e | e <;> rw [e] <;> rfl)
              have kn := (show Kn H [] [] H6 ((b, oBlk K dx (.ref kl) (.ref ol) .non) :: (kl, .lst [.int (i : Int)]) :: (ol, .lst []) :: (fo, .lst (As.map (fun A : BA => V.ref A.b) ++ [.ref A.b, .ref b])) :: (A.kl, .lst (S.2.keys.map V.int)) :: (A.b, oBlk K A.dx (.ref A.kl) (.ref A.ol) .non) :: (A.ol, .lst (A.os.map V.ref)) :: (gd, .dK kvs) :: rest) [] _ from kn3).pmn 8 [3, 1, 0, 2, 7, 5, 4, 6] (by decide) (by decide)
              walk_at "pm"
              have ef : (As ++ [A]).map (fun A : BA => V.ref A.b) ++ [.ref b] = As.map (fun A : BA => V.ref A.b) ++ [.ref A.b, .ref b] := by
                rw [List.map_append, List.append_assoc] <;> rfl
              refine ⟨rfl, rfl, by show 1 ≤ _; omega, Nat.zero_le _, by rw [List.length_append]; have := I.ld; show S.1.length + 1 ≤ _; omega, (fun i hi => by cases hi), fun B hB => ?_, (I.mm.more _ _ _).snoc fun q hq => ?_, ?_⟩
              · rcases List.mem_append.mp hB with hB | hB
                · exact I.ok B hB
                · have e : B = S.2 := by simpa using hB
                  rw [e]
                  exact I.ok2 (by omega)
              · unfold BA.obs at hq
                rw [I.sv] at hq
                simp only [List.mem_cons, List.not_mem_nil, or_false] at hq ⊢
                rcases hq with e | e | e
                · exact .inl e
                · exact .inr (.inl e)
                · exact .inr (.inr (.inl e))
              · rw [ef]
                exact kn.imp (mono_b as cs ⟨b, dx, kl, ol, [], [], .non⟩ ⟨[(i : Int)], [], none⟩ (As ++ [A]) (S.1 ++ [S.2])) fun h => ⟨⟨h.1.1, .nil, .nil, rfl⟩, h.2.snoc h.1.2⟩
          · have hin : ¬ (i : Int) ∈ goals cs := fun z => by
              rw [(hk i).mpr z] at e
              cases e
            rw [if_neg hin]
            walk_at "wp"
            exact ⟨As, A, rest, rfl, hbc, I.s0, I.sv, Nat.le_succ_of_le I.lk, Nat.le_succ_of_le I.lo, Nat.le_succ_of_le I.ld, I.ov, I.ok, I.mm, I.kn⟩
        · obtain ⟨As, A, rest, rfl, hbc, I⟩ := hm
          have hrun : runB (goals cs) ((i + 1 : Nat) : Int) (cs.drop (i + 1)) (cellB cc (if (i : Int) ∈ goals cs then keyB i S else S)) = runB (goals cs) 0 cs ([], blk0) := by
            rw [← hrun]
            show _ = runB (goals cs) ((i : Int) + 1) _ _
            have e : ((i + 1 : Nat) : Int) = (i : Int) + 1 := by omega
            rw [e] <;> rfl
          generalize (if (i : Int) ∈ goals cs then keyB i S else S) = S at I hrun
          have kn := I.kn
          have la := I.mm.len
          have ld := I.ld
          have fin : ∀ (t : Addr) (H6 : Hp) (TT : Tps), Kn H [] [] H6 ((fo, .lst (As.map (fun A : BA => V.ref A.b) ++ [.ref A.b])) :: (A.kl, .lst (S.2.keys.map V.int)) :: (A.b, oBlk K A.dx (.ref A.kl) (.ref A.ol) .non) :: (A.ol, .lst (A.os.map V.ref)) :: (gd, .dK kvs) :: rest) TT
              (fun H => (At H as (cs.map Cell.its) ∧ BlkT H A S.2) ∧ All2 (BlkT H) As S.1) → H6 t = some (.tup (wide5 cc).its) → cellB cc S = (S.1 ++ [⟨S.2.keys, S.2.owns, some (wide5 cc)⟩], blk0) →
              kFldS K "b_settle" (.ref A.b) (.ref t) H6 fun H7 => tDrop (tBM K "list" rAppend (tVar 3) (tCons (tMake (He.ga K "Block") (Sp1 (rInit K)) [] E0 tNil) tNil)) ⟨fun σ' H' =>
                ∃ (a1 a4 : Option V) (S : List Blk × Blk) (As : List BA) (A : BA) (rest : Obs), σ' = [some (.ref ca), a1, some (.ref gd), some (.ref fo), a4] ∧ runB (goals cs) ((i + 1 : Nat) : Int) (cs.drop (i + 1)) S = runB (goals cs) 0 cs ([], blk0) ∧ BInv K H fo gd kvs as cs (2 * (i + 1)) As A rest S H', Q, fun _ _ => True, fun _ _ => True⟩
                [some (.ref ca), some (.ref bc), some (.ref gd), some (.ref fo), some (.int (i : Int))] H7 := fun t H6 TT kn ht hcB => by
            have kn := kn.tps (T' := [(t, (wide5 cc).its)]) (fun q hq => by
              have e : q = (t, (wide5 cc).its) := by simpa using hq
              rw [e]
              exact ht)
            refine w_sSettle T kn 2 rfl fun H7 kn => ?_
            walk_at "pm"
            walk_at "wp"
            refine w_mkB kn fun b dx kl ol H8 kn => ?_
            walk_at "wp"
            refine w_append kn 3 rfl (by rw [List.length_append, List.length_map]; show As.length + 1 ≤ _; omega) fun H9 kn => ?_
            walk_at "pm"
            have kn := kn.pmn 8 [3, 1, 0, 2, 7, 5, 4, 6] (by decide) (by decide)
            walk_at "pm"
            have ht := kn.t 0 rfl
            have ef : (As ++ [({ A with sv := .ref t } : BA)]).map (fun A : BA => V.ref A.b) ++ [.ref b] = As.map (fun A : BA => V.ref A.b) ++ [.ref A.b] ++ [.ref b] := by
              rw [List.map_append] <;> rfl
            rw [hcB] at hrun
            refine ⟨_, _, (S.1 ++ [⟨S.2.keys, S.2.owns, some (wide5 cc)⟩], blk0), As ++ [({ A with sv := .ref t } : BA)], ⟨b, dx, kl, ol, [], [], .non⟩, (A.b, oBlk K A.dx (.ref A.kl) (.ref A.ol) (.ref t)) :: (A.kl, .lst (S.2.keys.map V.int)) :: (A.ol, .lst (A.os.map V.ref)) :: rest, rfl, hrun,
              rfl, rfl, Nat.zero_le _, Nat.zero_le _, by rw [List.length_append]; show S.1.length + 1 ≤ _; omega, (fun i hi => by cases hi), fun B hB => ?_, (I.mm.more _ _ _).snoc fun q hq => ?_, ?_⟩
            · rcases List.mem_append.mp hB with hB | hB
              · exact I.ok B hB
              · have e : B = ⟨S.2.keys, S.2.owns, some (wide5 cc)⟩ := by simpa using hB
                rw [e]
                exact ⟨(I.ok2 (by omega)).k, (I.ok2 (by omega)).o, (I.ok2 (by omega)).v⟩
            · unfold BA.obs at hq
              simp only [List.mem_cons, List.not_mem_nil, or_false] at hq ⊢
              rcases hq with e | e | e
              · exact .inl e
              · exact .inr (.inl e)
              · exact .inr (.inr (.inl e))
            · rw [ef]
              exact (kn.imp (mono_b as cs ⟨b, dx, kl, ol, [], [], .non⟩ blk0 (As ++ [({ A with sv := .ref t } : BA)]) (S.1 ++ [⟨S.2.keys, S.2.owns, some (wide5 cc)⟩])) fun h => ⟨⟨h.1.1, .nil, .nil, rfl⟩, h.2.snoc ⟨h.1.2.o1, h.1.2.o2, t, rfl, ht⟩⟩).noT
          cases cc with
          | ins h ii =>
            have kn := kn.tps (T' := [(bc, .int h :: ii.its)]) (fun q hq => by
              have e : q = (bc, V.int h :: ii.its) := by simpa using hq
              rw [e]
              exact hbc)
            walk_at "wp"
            refine w_ixT (SqT.of (kn.t 0 rfl)) atI_0 ?_
            walk_at "wp"
            refine w_ixL (SqL.of (kn.l 0 rfl)) (atI_last _ _) ?_
            walk_at "wp"
            refine w_slT kn (SqT.of (kn.t 0 rfl)) (cut_ne _ _ _) fun l H6 kn => ?_
            rw [cut_tail] at kn
            walk_at "wp"
            refine w_kTup kn rfl fun t H7 kn => ?_
            walk_at "wp"
            have hlo := I.kn.pp.1.2.lo
            have hoo := I.lo
            refine w_append kn 3 rfl (by rw [List.length_map]; omega) fun H8 kn => ?_
            walk_at "pm"
            walk_at "wp"
            have ht := kn.t 0 rfl
            have hl := kn.t 1 rfl
            refine ⟨_, _, _, As, { A with os := A.os ++ [t], ws := A.ws ++ [l] }, rest, rfl, hrun, I.s0, I.sv, Nat.le_succ_of_le I.lk, by show (S.2.owns ++ [ii]).length ≤ _; rw [List.length_append]; show S.2.owns.length + 1 ≤ _; omega, Nat.le_succ_of_le I.ld, fun j hj => ?_, I.ok, I.mm, ?_⟩
            · rcases List.mem_append.mp hj with hj | hj
              · exact I.ov j hj
              · have e : j = ii := by simpa using hj
                rw [e]
                exact hcok
            · have kn := (kn.imp (mono_b as cs { A with os := A.os ++ [t], ws := A.ws ++ [l] } ⟨S.2.keys, S.2.owns ++ [ii], S.2.settle⟩ As S.1) fun h => ⟨⟨h.1.1, by
                show At _ (A.os ++ [t]) ((A.ws ++ [l]).map _)
                rw [List.map_append]
                exact h.1.2.o1.app (.one ht), by
                show At _ (A.ws ++ [l]) ((S.2.owns ++ [ii]).map _)
                rw [List.map_append]
                exact h.1.2.o2.app (.one hl), h.1.2.st⟩, h.2⟩).noT
              have hap : A.os.map V.ref ++ [V.ref t] = (A.os ++ [t]).map V.ref := by rw [List.map_append] <;> rfl
              rw [hap] at kn
              exact kn
          | shw p wd =>
            have kn := kn.tps (T' := [(bc, [.str "show", .int p, .int wd])]) (fun q hq => by
              have e : q = (bc, [V.str "show", .int p, .int wd]) := by simpa using hq
              rw [e]
              exact hbc)
            walk_at "wp"
            refine w_slT (hi := some 2) kn (SqT.of (kn.t 0 rfl)) (fun z => absurd (show (2 : Nat) = 3 from z.2) (by decide)) fun l H6 kn => ?_
            walk_at "wp"
            refine w_kTup kn rfl fun l2 H7 kn => ?_
            walk_at "wp"
            refine w_catT kn (SqT.of (kn.t 1 rfl)) (SqT.of (kn.t 0 rfl)) (by show 3 ≤ 100000; decide) (by intro z; cases z) (by intro z; cases z) fun t H8 kn => ?_
            walk_at "wp"
            refine w_ixL (SqL.of (kn.l 0 rfl)) (atI_last _ _) ?_
            walk_at "wp"
            exact fin t H8 _ kn (kn.t 0 rfl) rfl
          | turn p wd =>
            have kn := kn.tps (T' := [(bc, [.str "turn", .int p, .int wd])]) (fun q hq => by
              have e : q = (bc, [V.str "turn", .int p, .int wd]) := by simpa using hq
              rw [e]
              exact hbc)
            walk_at "wp"
            refine w_slT (hi := some 2) kn (SqT.of (kn.t 0 rfl)) (fun z => absurd (show (2 : Nat) = 3 from z.2) (by decide)) fun l H6 kn => ?_
            walk_at "wp"
            refine w_kTup kn rfl fun l2 H7 kn => ?_
            walk_at "wp"
            refine w_catT kn (SqT.of (kn.t 1 rfl)) (SqT.of (kn.t 0 rfl)) (by show 3 ≤ 100000; decide) (by intro z; cases z) (by intro z; cases z) fun t H8 kn => ?_
            walk_at "wp"
            refine w_ixL (SqL.of (kn.l 0 rfl)) (atI_last _ _) ?_
            walk_at "wp"
            exact fin t H8 _ kn (kn.t 0 rfl) rfl
          | take p wd =>
            have kn := kn.tps (T' := [(bc, [.str "take", .int p, .int wd])]) (fun q hq => by
              have e : q = (bc, [V.str "take", .int p, .int wd]) := by simpa using hq
              rw [e]
              exact hbc)
            walk_at "wp"
            refine w_slT (hi := some 2) kn (SqT.of (kn.t 0 rfl)) (fun z => absurd (show (2 : Nat) = 3 from z.2) (by decide)) fun l H6 kn => ?_
            walk_at "wp"
            refine w_kTup kn rfl fun l2 H7 kn => ?_
            walk_at "wp"
            refine w_catT kn (SqT.of (kn.t 1 rfl)) (SqT.of (kn.t 0 rfl)) (by show 3 ≤ 100000; decide) (by intro z; cases z) (by intro z; cases z) fun t H8 kn => ?_
            walk_at "wp"
            refine w_ixL (SqL.of (kn.l 0 rfl)) (atI_last _ _) ?_
            walk_at "wp"
            exact fin t H8 _ kn (kn.t 0 rfl) rfl
          | goto p =>
            have kn := kn.tps (T' := [(bc, [.str "goto", .int p])]) (fun q hq => by
              have e : q = (bc, [V.str "goto", .int p]) := by simpa using hq
              rw [e]
              exact hbc)
            walk_at "wp"
            refine w_ixL (SqL.of (kn.l 0 rfl)) (atI_last _ _) ?_
            walk_at "wp"
            exact fin bc _ _ kn (kn.t 0 rfl) rfl
          | stop =>
            have kn := kn.tps (T' := [(bc, [.str "stop"])]) (fun q hq => by
              have e : q = (bc, [V.str "stop"]) := by simpa using hq
              rw [e]
              exact hbc)
            walk_at "wp"
            refine w_ixL (SqL.of (kn.l 0 rfl)) (atI_last _ _) ?_
            walk_at "wp"
            exact fin bc _ _ kn (kn.t 0 rfl) rfl
          | mark =>
            have kn := kn.tps (T' := [(bc, [.str "mark"])]) (fun q hq => by
              have e : q = (bc, [V.str "mark"]) := by simpa using hq
              rw [e]
              exact hbc)
            walk_at "wp"
            refine w_ixL (SqL.of (kn.l 0 rfl)) (atI_last _ _) ?_
            walk_at "wp"
            exact fin bc _ _ kn (kn.t 0 rfl) rfl
      · obtain ⟨a1, a4, S, As, A, rest, rfl, hrun, I⟩ := hp
        rw [List.length_map, las] at hrun I
        rw [List.drop_length] at hrun
        walk_at "wp"
        have hr : runB (goals cs) 0 cs ([], blk0) = S := hrun.symm
        refine q fo (As ++ [A]) H' I.kn.fr.toSame (by rw [List.map_append]; exact I.kn.l 0 rfl) ?_ fun B hB => ?_
        · unfold blocksOf
          rw [hr]
          refine All2.snoc I.at_ ((I.mm.and I.kn.pp.2).imp fun A B h => ⟨fun q hq => ?_, h.2⟩)
          exact I.kn.ats q (List.mem_cons_of_mem _ (List.mem_cons_of_mem _ (List.mem_cons_of_mem _ (List.mem_cons_of_mem _ (List.mem_cons_of_mem _ (h.1 q hq))))))
        · unfold blocksOf at hB
          rw [hr] at hB
          rcases List.mem_append.mp hB with hB | hB
          · exact I.ok B hB
          · have e : B = S.2 := by simpa using hB
            rw [e]
            exact I.ok2 (by omega)
end
end Hue
set_option Elab.async false
set_option linter.all false
set_option maxRecDepth 100000
set_option maxHeartbeats 4000000
set_option autoImplicit false
namespace Hue
open PySem PySem.Spec PyProof.Rows L2
def N_many_cells : List Str := [("blocks" : Str), ("hues" : Str), ("block" : Str)]
theorem sc_many_cells : FnScope N_many_cells [("blocks" : Str), ("hues" : Str)] (defScope s_many_cells) := ⟨rfl, rfl, rfl, by decide +kernel, rfl, by decide +kernel, by decide +kernel⟩
def N_settle_led : List Str := [("words" : Str), ("spots" : Str), ("hues" : Str), ("found" : Str)]
theorem sc_settle_led : FnScope N_settle_led [("words" : Str), ("spots" : Str), ("hues" : Str)] (defScope s_settle_led) := ⟨rfl, rfl, rfl, by decide +kernel, rfl, by decide +kernel, by decide +kernel⟩
def N_laid : List Str := [("blocks" : Str), ("hues" : Str), ("spots" : Str), ("at" : Str), ("block" : Str), ("key" : Str), ("cells" : Str), ("hue" : Str), ("width" : Str), ("words" : Str)]
theorem sc_laid : FnScope N_laid [("blocks" : Str), ("hues" : Str)] (defScope s_laid) := ⟨rfl, rfl, rfl, by decide +kernel, rfl, by decide +kernel, by decide +kernel⟩
/-! ### the lay of blocks -/
def sumMany (h : Int) (Bs : List Blk) : Int := (Bs.map fun B => B.many h).sum
def led (sp : Int → Int) (h : Int) : Cell → Cell
  | .shw p _ => .shw p h
  | .turn g _ => .turn (sp g) h
  | .take b _ => .take b h
  | .goto g => .goto (sp g)
  | c => c
def putKeys (at_ : Int) : List Int → List (Key × V) → List (Key × V)
  | [], kvs => kvs
  | k :: ks, kvs => putKeys at_ ks (putK kvs (Sum.inl k : Key) (.int at_))
def spotsK (h : Int) : List Blk → Int → List (Key × V) → List (Key × V)
  | [], _, kvs => kvs
  | B :: Bs, at_, kvs => spotsK h Bs (at_ + B.many h) (putKeys at_ B.keys kvs)
def spOf (h : Int) (Bs : List Blk) (g : Int) : Int := match valV (spotsK h Bs 0 []) (Sum.inl g : Key) with
  | some (.int n) => n
  | _ => 0
def flush (h : Nat) (is : List Ins) : List Cell := (List.range h).flatMap fun x : Nat => is.map (Cell.ins (x : Int))
theorem flush_succ (h : Nat) (is : List Ins) : flush (h + 1) is = flush h is ++ is.map (Cell.ins (h : Int)) := by
  unfold flush
  rw [List.range_succ, List.flatMap_append]
  simp
theorem flush_len (h : Nat) (is : List Ins) : (flush h is).length = h * is.length := by
  induction h with
  | zero => rw [Nat.zero_mul] <;> rfl
  | succ h ih => rw [flush_succ, List.length_append, ih, List.length_map, Nat.succ_mul]
def laidB (sp : Int → Int) (h : Nat) (B : Blk) : List Cell := flush h B.owns ++ (match B.settle with
  | none => []
  | some c => [led sp h c])
def layP (h : Nat) (Bs : List Blk) : List Cell := Bs.flatMap (laidB (spOf h Bs) h)
def totKeys (Bs : List Blk) : Nat := (Bs.map fun B => B.keys.length).sum
/-- blocks that can be laid -/
structure LayOk (h : Nat) (Bs : List Blk) : Prop where
  ok : ∀ B ∈ Bs, B.Ok
  n : Bs.length ≤ 10000
  k : totKeys Bs ≤ 10000
  l : (layP h Bs).length ≤ 10000
  s : ∀ B ∈ Bs, ∀ c, B.settle = some c → wide5 c = c ∧ (∀ j i, c ≠ .ins j i) ∧ ∀ g, c.goal? = some g → ∃ n, valV (spotsK h Bs 0 []) (Sum.inl g : Key) = some (.int n)
def rManyCells (K : PySem.W.Frag) : V → V → Hp → VK → XK → Prop := fun x y H Q _ => ∃ (l : Addr) (h : Int) (As : List BA) (Bs : List Blk), x = .ref l ∧ y = .int h ∧ 1 ≤ h ∧ h ≤ 5 ∧ H l = some (.lst (As.map fun A : BA => V.ref A.b)) ∧ All2 (BlkAt K H) As Bs ∧ (∀ B ∈ Bs, B.Ok) ∧ Bs.length ≤ 10000 ∧ ∀ H', Same H H' → Q (.int (sumMany h Bs)) H'
def rSettleLed : V → V → V → Hp → VK → XK → Prop := fun x y z H Q _ => ∃ (t d : Addr) (h : Int) (kvs : List (Key × V)) (c : Cell) (sp : Int → Int), x = .ref t ∧ y = .ref d ∧ z = .int h ∧ 1 ≤ h ∧ h ≤ 5 ∧ H t = some (.tup c.its) ∧ H d = some (.dK kvs) ∧ wide5 c = c ∧ (∀ j i, c ≠ .ins j i) ∧
  (∀ g, c.goal? = some g → valV kvs (Sum.inl g : Key) = some (.int (sp g))) ∧ ∀ a H', Same H H' → H' a = some (.tup (led sp h c).its) → Q (.ref a) H'
def rLaidP (K : PySem.W.Frag) : V → V → Hp → VK → XK → Prop := fun x y H Q _ => ∃ (l : Addr) (h : Nat) (As : List BA) (Bs : List Blk), x = .ref l ∧ y = .int (h : Int) ∧ 1 ≤ h ∧ h ≤ 5 ∧ H l = some (.lst (As.map fun A : BA => V.ref A.b)) ∧ All2 (BlkAt K H) As Bs ∧ LayOk h Bs ∧
  ∀ (a : Addr) (as : List Addr) H', Same H H' → H' a = some (.tup (as.map V.ref)) → At H' as ((layP h Bs).map Cell.its) → Q (.ref a) H'
section
variable {P : Program} {w : World} {K : PySem.W.Frag} {mg : Str → Option Value} {base : Heap}
theorem ba_get {As : List BA} {i : Nat} {x : V} (h : (As.map fun A : BA => V.ref A.b)[i]? = some x) : ∃ A, As[i]? = some A ∧ x = .ref A.b := by
  rw [List.getElem?_map] at h
  obtain ⟨A, e1, e2⟩ := Option.map_eq_some_iff.mp h
  exact ⟨A, e1, e2.symm⟩
theorem ok_many_cells (D : DefAt K mg "many_cells" s_many_cells) (T : Txt K mg) (M_Block_many : CalM P w K mg base CX0 1 (He.ma K (He.ga K "Block") "many") [("self" : Str), ("hues" : Str)] (Sp2 (rMany K))) :
    Cal P w K mg base CX0 2 "many_cells" [("blocks" : Str), ("hues" : Str)] (Sp2 (rManyCells K)) := by
  refine cal_of D sc_many_cells (fun _ _ _ _ _ _ us hl => match us, hl with | [_, _], _ => rfl) (fun vs H Q E h => ?_) (fun f cdv A outer s H vs Q E hr h => ⟨_, PSs.nox ((pss_one (ps_ret (pe_callB (cr_sumK (K := K) rfl) (by rfl) T.b_sum (by decide +kernel) (pa_cons (pe_lc (own := [("block", 2)]) rfl sc_many_cells.nd (pi_listK (K := K) (pv 0)) (blkOk_by (own := [("block", 2)]) (N := N_many_cells) (sc := defScope s_many_cells) (by decide +kernel)) (fun _ _ _ _ _ => (pg_name (i := 2) sc_many_cells.nd rfl (by first | exact Or.inl rfl | exact Or.inr rfl))) (fun _ _ _ _ _ => pts_nil) (fun _ _ _ _ _ => by exact (pe_mth (pv 2) T.clBlock T.m_many M_Block_many hr (by decide) pass0 (pa_cons (pv 1) pa_nil)))) pa_nil))))), ?_⟩)
  · obtain ⟨a, b, rfl, _⟩ := h
    rfl
  · obtain ⟨x, y, rfl, l, h, As, Bs, rfl, rfl, h1, h5, hl, hB, hok, hn, q⟩ := h
    have kn := Kn.start0 (H0 := H)
    have la := hB.len
    walk_at "wp"
    refine w_lcL kn (SqL.of hl) (fun D i H' => Kn H [] [] H' [(D, .lst (((Bs.take i).map fun B => B.many h).map V.int))] [] (fun _ => True)) (fun D H' kn => kn) (fun D i H' _ kn => SqL.of (kn.fr.toSame _ _ hl)) (fun D i x H' hx hi kn => ?_) (fun D H' kn => ?_)
    · obtain ⟨A, eA, rfl⟩ := ba_get hx
      obtain ⟨B, eB, hBA⟩ := hB.get eA
      have hBA := hBA.same kn.fr.toSame
      have hb := hBA.hb
      rw [List.length_map, la] at hi
      walk_at "wp"
      refine ⟨_, _, rfl, A, B, h, rfl, rfl, h1, h5, hBA, hok B (List.mem_of_getElem? eB), fun H2 s2 => ?_⟩
      have kn := kn.same s2
      refine w_kAcc kn 0 rfl (by rw [List.length_map, List.length_map, List.length_take]; omega) fun H3 kn => ?_
      rw [map_snoc] at kn
      rw [take_map _ eB]
      exact kn
    · rw [List.length_map, la, List.take_length] at kn
      walk_at "wp"
      refine w_sum (SqL.of (kn.l 0 rfl)) ?_
      exact q _ kn.fr.toSame
theorem ok_settle_led (D : DefAt K mg "settle_led" s_settle_led) (T : Txt K mg) (C_has_goal : Cal P w K mg base CX0 1 "has_goal" [("words" : Str)] (Sp1 rHasGoal)) :
    Cal P w K mg base CX0 2 "settle_led" [("words" : Str), ("spots" : Str), ("hues" : Str)] (Sp3 rSettleLed) := by
  refine cal_of D sc_settle_led (fun _ _ _ _ _ _ us hl => match us, hl with | [_, _, _], _ => rfl) (fun vs H Q E h => ?_) (fun f cdv A outer s H vs Q E hr h => ⟨_, PSs.nox ((pss_cons (ps_set (i := 3) sc_settle_led.nd rfl (Or.inl rfl) (pv 0))
      (C8.pss_cut (ps_if (pt_val (pe_cl C_has_goal hr (by decide) pass0 rfl (pa_cons (pv 0) pa_nil))) (pss_one (ps_set (i := 3) sc_settle_led.nd rfl (Or.inl rfl) (pe_op (op_catAK (K := K)) (pe_tup (pa_cons (pe_ix (ix_tupK (K := K)) (pv 0) pe_int (fun _ _ => rfl)) (pa_cons (pe_dget (hu_of hr) (pv 1) (pe_ix (ix_tupK (K := K)) (pv 0) pe_int (fun _ _ => rfl)) (fun _ _ => rfl)) pa_nil))) (pe_slice (sl_tupK (K := K)) (pv 0) (po_some pe_int) po_none)))) pss_nil)
      (pss_one (ps_ret (pe_ifExp (pt_cmpR op_eq (pe_callB (cr_lenK (K := K)) (by rfl) T.b_len (by decide +kernel) (pa_cons (pv 3) pa_nil)) pe_int (nomark _)) (pe_op (op_catAK (K := K)) (pe_slice (sl_tupK (K := K)) (pv 3) po_none (po_some pe_int)) (pe_tup (pa_cons (pe_callB (cr_min2 rfl) (by rfl) T.b_min (by decide +kernel) (pa_cons (pe_ix (ix_tupK (K := K)) (pv 3) pe_int (fun _ _ => rfl)) (pa_cons (pv 2) pa_nil))) pa_nil))) (pv 3))))))), ?_⟩)
  · obtain ⟨a, b, c, rfl, _⟩ := h
    rfl
  · obtain ⟨x, y, z, rfl, t, d, h, kvs, c, sp, rfl, rfl, rfl, h1, h5, ht, hd, hw, hs, hg, q⟩ := h
    have hm : (if h < 5 then h else 5) = h := by
      by_cases z : h < 5
      · rw [if_pos z]
      · rw [if_neg z]
        omega
    walk_at "wp"
    refine ⟨fun σ' H' => ∃ f, σ' = [some (.ref t), some (.ref d), some (.int h), some (.ref f)] ∧ Same H H' ∧ H' f = some (.tup (led sp 5 c).its), ?_, fun σ' H' hm2 => ?_⟩
    · cases c with
      | ins j i => exact absurd rfl (hs j i)
      | turn g wd =>
        have e5 : wd = 5 := by
          injection hw with _ e
          exact e.symm
        subst e5
        have kn := Kn.start1 (xs := [.str "turn", .int g, .int 5]) ht
        walk_at "wp"
        refine ⟨t, .turn g 5, rfl, ht, ?_⟩
        walk_at "wp"
        refine w_kGetI hd (hg g rfl) ?_
        walk_at "wp"
        refine w_kTup kn rfl fun l H1 kn => ?_
        walk_at "wp"
        refine w_slT kn (SqT.of (kn.t 1 rfl)) (fun z => absurd (show (2 : Nat) = 0 from z.1) (by decide)) fun l2 H2 kn => ?_
        walk_at "wp"
        refine w_catT kn (SqT.of (kn.t 1 rfl)) (SqT.of (kn.t 0 rfl)) (by show 3 ≤ 100000; decide) (by intro z; cases z) (by intro z; cases z) fun f H3 kn => ?_
        walk_at "wp"
        exact ⟨f, rfl, kn.fr.toSame, kn.t 0 rfl⟩
      | goto g =>
        have kn := Kn.start1 (xs := [.str "goto", .int g]) ht
        walk_at "wp"
        refine ⟨t, .goto g, rfl, ht, ?_⟩
        walk_at "wp"
        refine w_kGetI hd (hg g rfl) ?_
        walk_at "wp"
        refine w_kTup kn rfl fun l H1 kn => ?_
        walk_at "wp"
        refine w_slT kn (SqT.of (kn.t 1 rfl)) (fun z => absurd (show (2 : Nat) = 0 from z.1) (by decide)) fun l2 H2 kn => ?_
        walk_at "wp"
        refine w_catT0 (SqT.of (kn.t 1 rfl)) (SqT.of (kn.t 0 rfl)) (by show 2 ≤ 100000; decide) (by intro z; cases z) ?_
        walk_at "wp"
        exact ⟨l, rfl, kn.fr.toSame, kn.t 1 rfl⟩
      | shw p wd =>
        have e5 : wd = 5 := by
          injection hw with _ e
          exact e.symm
        subst e5
        walk_at "wp"
        refine ⟨t, .shw p 5, rfl, ht, ?_⟩
        walk_at "wp"
        exact ⟨t, rfl, fun _ _ e => e, ht⟩
      | take p wd =>
        have e5 : wd = 5 := by
          injection hw with _ e
          exact e.symm
        subst e5
        walk_at "wp"
        refine ⟨t, .take p 5, rfl, ht, ?_⟩
        walk_at "wp"
        exact ⟨t, rfl, fun _ _ e => e, ht⟩
      | stop =>
        walk_at "wp"
        refine ⟨t, .stop, rfl, ht, ?_⟩
        walk_at "wp"
        exact ⟨t, rfl, fun _ _ e => e, ht⟩
      | mark =>
        walk_at "wp"
        refine ⟨t, .mark, rfl, ht, ?_⟩
        walk_at "wp"
        exact ⟨t, rfl, fun _ _ e => e, ht⟩
    · obtain ⟨f, rfl, s1, hf⟩ := hm2
      have three : ∀ (wd : Str) (n : Int), (led sp 5 c).its = [.str wd, .int n, .int 5] → (led sp h c).its = [.str wd, .int n, .int h] → ∀ {tt : TE}, tt = (tIf (tTest (tOp rEq (tCB (rLn K) (tCons (tVar 3) tNil)) (tC (V.int 3)))) (tOp (rCatA K) (tSl (rSlA K) (tVar 3) tNoPart (tPart (tC (V.int 2)))) (tTup (tCons (tCB rMin2 (tCons (tOp (rIxT K) (tVar 3) (tC (V.int 2))) (tCons (tVar 2) tNil))) tNil))) (tVar 3)) →
          tt [some (.ref t), some (.ref d), some (.int h), some (.ref f)] H' Q := fun wd n e1 e2 tt et => by
        subst et
        rw [e1] at hf
        have kn := Kn.start1 (xs := [.str wd, .int n, .int 5]) hf
        walk_at "wp"
        refine w_slT (hi := some 2) kn (SqT.of (kn.t 0 rfl)) (fun z => absurd (show (2 : Nat) = 3 from z.2) (by decide)) fun l H6 kn => ?_
        walk_at "wp"
        rw [hm]
        refine w_kTup kn rfl fun l2 H7 kn => ?_
        walk_at "wp"
        refine w_catT kn (SqT.of (kn.t 1 rfl)) (SqT.of (kn.t 0 rfl)) (by show 3 ≤ 100000; decide) (by intro z; cases z) (by intro z; cases z) fun a H8 kn => ?_
        exact q a _ (fun b o e => kn.fr.toSame _ _ (s1 _ _ e)) (by rw [e2]; exact kn.t 0 rfl)
      refine w_ret ?_
      cases c with
      | ins j i => exact absurd rfl (hs j i)
      | turn g wd => exact three "turn" (sp g) rfl rfl rfl
      | shw p wd => exact three "show" p rfl rfl rfl
      | take p wd => exact three "take" p rfl rfl rfl
      | goto g =>
        have kn := Kn.start1 (xs := [.str "goto", .int (sp g)]) hf
        walk_at "wp"
        exact q f _ s1 hf
      | stop =>
        have kn := Kn.start1 (xs := [.str "stop"]) hf
        walk_at "wp"
        exact q f _ s1 hf
      | mark =>
        have kn := Kn.start1 (xs := [.str "mark"]) hf
        walk_at "wp"
        exact q f _ s1 hf
theorem ok_laid (D : DefAt K mg "laid" s_laid) (T : Txt K mg) (M_Block_many : CalM P w K mg base CX0 1 (He.ma K (He.ga K "Block") "many") [("self" : Str), ("hues" : Str)] (Sp2 (rMany K)))
    (C_settle_led : Cal P w K mg base CX0 2 "settle_led" [("words" : Str), ("spots" : Str), ("hues" : Str)] (Sp3 rSettleLed)) :
    Cal P w K mg base CX0 3 "laid" [("blocks" : Str), ("hues" : Str)] (Sp2 (rLaidP K)) := by
  refine cal_of D sc_laid (fun _ _ _ _ _ _ us hl => match us, hl with | [_, _], _ => rfl) (fun vs H Q E h => ?_) (fun f cdv A outer s H vs Q E hr h => ⟨_, PSs.nox ((pss_cons (ps_par (i := 2) (j := 3) (by rfl) sc_laid.nd rfl rfl (by decide) rfl rfl (pa_cons pe_dnewK (pa_cons pe_int pa_nil)) (by rfl))
      (pss_cons (ps_for PassesOwn.never rfl (pi_listK (K := K) (pv 0)) (pg_name (i := 4) sc_laid.nd rfl (Or.inl rfl)) (pss_cons (ps_for PassesOwn.never rfl (pi_listK (K := K) (pe_fldK (K := K) (pv 4) rfl)) (pg_name (i := 5) sc_laid.nd rfl (Or.inl rfl)) (pss_one (ps_dput (hu_of hr) (pv 2) (pv 5) (pv 3) rfl)))
      (pss_one (ps_set (i := 3) sc_laid.nd rfl (Or.inl rfl) (pe_op op_add (pv 3) (pe_mth (pv 4) T.clBlock T.m_many M_Block_many hr (by decide) pass0 (pa_cons (pv 1) pa_nil)))))))
      (pss_cons (ps_set (i := 6) sc_laid.nd rfl (Or.inl rfl) (pe_lst pa_nil))
      (pss_cons (ps_for PassesOwn.never rfl (pi_listK (K := K) (pv 0)) (pg_name (i := 4) sc_laid.nd rfl (Or.inl rfl)) (pss_cons (ps_for PassesOwn.never rfl (pi_range1 rfl T.b_range (pa_cons (pv 1) pa_nil)) (pg_name (i := 7) sc_laid.nd rfl (Or.inr rfl)) (pss_one (ps_expr (pe_bmK (K := K) PySem.F.plainAttrs_list PySem.F.slot_list_extend PySem.F.type_list_extend mt_extend (pv 6) (pa_cons (pe_lc (own := [("width", 8), ("words", 9)]) rfl sc_laid.nd (pi_listK (K := K) (pe_fldK (K := K) (pv 4) rfl)) (blkOk_by (own := [("width", 8), ("words", 9)]) (N := N_laid) (sc := defScope s_laid) (by decide +kernel)) (fun _ _ _ _ _ => (pg_tupK (K := K) (n := 2) rfl (pgs_cons (pg_name (i := 8) sc_laid.nd rfl (by first | exact Or.inl rfl | exact Or.inr rfl)) (pgs_cons (pg_name (i := 9) sc_laid.nd rfl (by first | exact Or.inl rfl | exact Or.inr rfl)) pgs_nil)))) (fun _ _ _ _ _ => by exact (pts_one (pt_cmpR op_lt (pv 7) (pv 8) (nomark _)))) (fun _ _ _ _ _ => by exact (pe_op (op_catAK (K := K)) (pe_tup (pa_cons (pv 7) pa_nil)) (pv 9)))) pa_nil)))))
      (pss_one (ps_if (pt_cmpR op_notN1 (pe_fldK (K := K) (pv 4) rfl) pe_non (nomark _)) (pss_one (ps_expr (pe_bmK (K := K) PySem.F.plainAttrs_list PySem.F.slot_list_append PySem.F.type_list_append mt_append (pv 6) (pa_cons (pe_cl C_settle_led hr (by decide) pass0 rfl (pa_cons (pe_fldK (K := K) (pv 4) rfl) (pa_cons (pv 2) (pa_cons (pv 1) pa_nil)))) pa_nil)))) pss_nil))))
      (pss_one (ps_ret (pe_callTy (cr_tupK (K := K)) (by rfl) T.b_tuple (by decide +kernel) (pa_cons (pv 6) pa_nil))))))))), ?_⟩)
  · obtain ⟨a, b, rfl, _⟩ := h
    rfl
  · obtain ⟨x, y, rfl, l, h, As, Bs, rfl, rfl, h1, h5, hl, hB, hL, q⟩ := h
    have kn := Kn.start0 (H0 := H)
    have la := hB.len
    walk_at "wp"
    refine w_dnew kn fun d H1 kn => ?_
    walk_at "wp"
    refine w_forL (SqL.of (kn.fr.toSame _ _ hl)) (fun j σ' H' => ∃ (a : Int) (kvs : List (Key × V)) (a4 a5 : Option V), σ' = [some (.ref l), some (.int (h : Int)), some (.ref d), some (.int a), a4, a5, none, none, none, none] ∧ spotsK h (Bs.drop j) a kvs = spotsK h Bs 0 [] ∧ kvs.length ≤ totKeys (Bs.take j) ∧ Kn H [] [] H' [(d, .dK kvs)] [] (fun _ => True))
      ⟨0, [], none, none, rfl, rfl, Nat.zero_le _, kn⟩ (fun i σ' H' _ hp => ?_) (fun j x σ' H' hx hj hp => ?_) (fun σ' H' hp => ?_)
    · obtain ⟨_, _, _, _, _, _, _, kn⟩ := hp
      exact SqL.of (kn.fr.toSame _ _ hl)
    · obtain ⟨a, kvs, a4, a5, rfl, hsp, hkl, kn⟩ := hp
      obtain ⟨A, eA, rfl⟩ := ba_get hx
      obtain ⟨B, eB, hBA⟩ := hB.get eA
      rw [List.length_map, la] at hj
      have hd : Bs.drop j = B :: Bs.drop (j + 1) := by
        rw [List.drop_eq_getElem_cons hj]
        rw [(List.getElem?_eq_some_iff.mp eB).2]
      rw [hd] at hsp
      have hok := hL.ok B (List.mem_of_getElem? eB)
      have hb := (hBA.same kn.fr.toSame).hb
      have htk : totKeys (Bs.take (j + 1)) = totKeys (Bs.take j) + B.keys.length := by
        unfold totKeys
        rw [take_map _ eB, List.sum_append]
        simp
      have htl : totKeys (Bs.take (j + 1)) ≤ totKeys Bs := by
        unfold totKeys
        have e : (Bs.map fun B => B.keys.length).sum = ((Bs.take (j + 1)).map fun B => B.keys.length).sum + ((Bs.drop (j + 1)).map fun B => B.keys.length).sum := by
          rw [← List.sum_append, ← List.map_append, List.take_append_drop]
        omega
      have hLk := hL.k
      walk_at "wp"
      refine w_forL (SqL.of (hBA.same kn.fr.toSame).hk) (fun i σ' H' => ∃ (kvs2 : List (Key × V)) (a5 : Option V), σ' = [some (.ref l), some (.int (h : Int)), some (.ref d), some (.int a), some (.ref A.b), a5, none, none, none, none] ∧ putKeys a (B.keys.drop i) kvs2 = putKeys a B.keys kvs ∧ kvs2.length ≤ kvs.length + i ∧ Kn H [] [] H' [(d, .dK kvs2)] [] (fun _ => True))
        ⟨kvs, a5, rfl, rfl, Nat.le_refl _, kn⟩ (fun i σ' H' _ hp => ?_) (fun i x σ' H' hx hi hp => ?_) (fun σ' H' hp => ?_)
      · obtain ⟨_, _, _, _, _, kn⟩ := hp
        exact SqL.of (hBA.same kn.fr.toSame).hk
      · obtain ⟨kvs2, a5, rfl, hpk, hl2, kn⟩ := hp
        obtain ⟨k, ek, rfl⟩ := int_map hx
        rw [List.length_map] at hi
        have hd2 : B.keys.drop i = k :: B.keys.drop (i + 1) := by
          rw [List.drop_eq_getElem_cons hi]
          rw [(List.getElem?_eq_some_iff.mp ek).2]
        rw [hd2] at hpk
        walk_at "wp"
        refine w_kPutI kn 0 rfl (by omega) fun H3 kn => ?_
        have := length_putK kvs2 (Sum.inl k : Key) (.int a)
        exact ⟨_, _, rfl, hpk, by omega, kn⟩
      · obtain ⟨kvs2, a5, rfl, hpk, hl2, kn⟩ := hp
        rw [List.length_map] at hpk hl2
        rw [List.drop_length] at hpk
        have hpk : kvs2 = putKeys a B.keys kvs := hpk
        have hBA2 := hBA.same kn.fr.toSame
        have hb := hBA2.hb
        walk_at "wp"
        refine ⟨_, _, rfl, A, B, (h : Int), rfl, rfl, by omega, by omega, hBA2, hok, fun H3 s3 => ?_⟩
        have kn := kn.same s3
        walk_at "wp"
        refine ⟨_, kvs2, _, _, rfl, ?_, by omega, kn⟩
        rw [hpk]
        exact hsp
    · obtain ⟨a, kvs, a4, a5, rfl, hsp, hkl, kn⟩ := hp
      rw [List.length_map, la, List.drop_length] at hsp
      have hsp : kvs = spotsK h Bs 0 [] := hsp
      subst hsp
      walk_at "wp"
      refine w_kLst kn rfl fun fo H2 kn => ?_
      walk_at "wp"
      have lp : ∀ j, ((Bs.take j).flatMap (laidB (spOf h Bs) h)).length ≤ 10000 := fun j => by
        have e : layP h Bs = (Bs.take j).flatMap (laidB (spOf h Bs) h) ++ (Bs.drop j).flatMap (laidB (spOf h Bs) h) := by
          unfold layP
          rw [← List.flatMap_append, List.take_append_drop]
        have := hL.l
        rw [e, List.length_append] at this
        omega
      refine w_forL (SqL.of (kn.fr.toSame _ _ hl)) (fun j σ' H' => ∃ (as : List Addr) (a4 a7 : Option V), σ' = [some (.ref l), some (.int (h : Int)), some (.ref d), some (.int a), a4, a5, some (.ref fo), a7, none, none] ∧
          Kn H [] [] H' [(fo, .lst (as.map V.ref)), (d, .dK (spotsK h Bs 0 []))] [] (fun H => At H as (((Bs.take j).flatMap (laidB (spOf h Bs) h)).map Cell.its)))
        ⟨[], _, none, rfl, kn.imp (At.mo _ _) fun _ => .nil⟩ (fun i σ' H' _ hp => ?_) (fun j x σ' H' hx hj hp => ?_) (fun σ' H' hp => ?_)
      · obtain ⟨_, _, _, _, kn⟩ := hp
        exact SqL.of (kn.fr.toSame _ _ hl)
      · obtain ⟨as, a4, a7, rfl, kn⟩ := hp
        obtain ⟨A, eA, rfl⟩ := ba_get hx
        obtain ⟨B, eB, hBA⟩ := hB.get eA
        rw [List.length_map, la] at hj
        have hok := hL.ok B (List.mem_of_getElem? eB)
        have htj : (Bs.take (j + 1)).flatMap (laidB (spOf h Bs) h) = (Bs.take j).flatMap (laidB (spOf h Bs) h) ++ laidB (spOf h Bs) h B := by
          rw [List.take_add_one, eB, List.flatMap_append]
          simp
        have lpj := lp j
        generalize hpre : (Bs.take j).flatMap (laidB (spOf h Bs) h) = pre at kn htj lpj
        walk_at "wp"
        refine w_forR ⟨by omega, by omega⟩ (fun n σ' H' => ∃ (as : List Addr) (a7 : Option V), σ' = [some (.ref l), some (.int (h : Int)), some (.ref d), some (.int a), some (.ref A.b), a5, some (.ref fo), a7, none, none] ∧
            Kn H [] [] H' [(fo, .lst (as.map V.ref)), (d, .dK (spotsK h Bs 0 []))] [] (fun H => At H as ((pre ++ flush n B.owns).map Cell.its)))
          ⟨as, a7, rfl, by
            have e : pre ++ flush 0 B.owns = pre := List.append_nil _
            rw [e]
            exact kn⟩ (fun n σ' H' hn hp => ?_) (fun σ' H' hp => ?_)
        · obtain ⟨as, a7, rfl, kn⟩ := hp
          have hBA2 := hBA.same kn.fr.toSame
          have hb := hBA2.hb
          have lo := hBA.t.lo
          have lpn : (flush n B.owns).length ≤ 50000 := by
            rw [flush_len]
            have h6 : n ≤ 5 := by omega
            exact Nat.le_trans (Nat.mul_le_mul h6 hok.o) (by decide)
          have las : as.length = pre.length + (flush n B.owns).length := by
            have := kn.pp.len
            rw [List.length_map, List.length_append] at this
            exact this
          walk_at "wp"
          refine w_lcL kn (SqL.of hBA2.ho) (fun D i H' => ∃ ds : List Addr, Kn H [] [] H' [(D, .lst (ds.map V.ref)), (fo, .lst (as.map V.ref)), (d, .dK (spotsK h Bs 0 []))] [] (fun H => At H as ((pre ++ flush n B.owns).map Cell.its) ∧ At H ds (((B.owns.take i).map (Cell.ins (n : Int))).map Cell.its)))
            (fun D H' kn => ⟨[], kn.and (At.mo _ _) .nil⟩) (fun D i H' _ hp => ?_) (fun D i x H' hx hi hp => ?_) (fun D H' hp => ?_)
          · obtain ⟨_, kn⟩ := hp
            exact SqL.of (hBA.same kn.fr.toSame).ho
          · obtain ⟨ds, kn⟩ := hp
            obtain ⟨o, eo, rfl⟩ := At.refs hx
            have hT := (hBA.same kn.fr.toSame).t
            obtain ⟨its, e1, ho⟩ := hT.o1.get' eo
            rw [List.getElem?_map] at e1
            obtain ⟨wd, ewd, rfl⟩ := Option.map_eq_some_iff.mp e1
            obtain ⟨its2, e2, hwd⟩ := hT.o2.get' ewd
            rw [List.getElem?_map] at e2
            obtain ⟨ii, eii, rfl⟩ := Option.map_eq_some_iff.mp e2
            have kn := kn.tps (T' := [(o, [.int 5, .ref wd]), (wd, ii.its)]) (fun q hq => by
              simp only [List.mem_cons, List.not_mem_nil, or_false] at hq
              rcases hq with e | e <;> rw [e]
              · exact ho
              · exact hwd)
            rw [List.length_map, lo] at hi
            have lds : ds.length = i := by
              have := kn.pp.2.len
              rw [List.length_map, List.length_map, List.length_take] at this
              omega
            have hok' := hok.o
            walk_at "wp"
            refine kIf_d (fun _ => ?_) fun e => absurd (show (n : Int) < 5 by omega) e
            walk_at "wp"
            refine w_kTup kn rfl fun p H3 kn => ?_
            walk_at "wp"
            have hle := ii.le
            refine w_catT kn (SqT.of (kn.t 0 rfl)) (SqT.of (kn.t 2 rfl)) (by rw [List.length_singleton]; omega) (by intro z; cases z) ii.ne fun t H4 kn => ?_
            refine w_kAcc kn 0 rfl (by rw [List.length_map]; omega) fun H5 kn => ?_
            walk_at "pm"
            have ht := kn.t 0 rfl
            refine ⟨ds ++ [t], ?_⟩
            have kn := (kn.imp (S := fun H => At H as ((pre ++ flush n B.owns).map Cell.its) ∧ At H (ds ++ [t]) (((B.owns.take (i + 1)).map (Cell.ins (n : Int))).map Cell.its)) (fun _ _ t h => ⟨h.1.mono t, h.2.mono t⟩) fun h => ⟨h.1, by
              rw [take_map _ eii, List.map_append]
              exact h.2.app (.one ht)⟩).noT
            rw [List.map_append]
            exact kn
          · obtain ⟨ds, kn⟩ := hp
            rw [List.length_map, lo, List.take_length] at kn
            have lds : ds.length = B.owns.length := by
              have := kn.pp.2.len
              rw [List.length_map, List.length_map] at this
              exact this
            have hok' := hok.o
            walk_at "wp"
            refine w_extend kn 1 rfl (kn.l 0 rfl) (by rw [List.length_map, List.length_map]; omega) fun H5 kn => ?_
            walk_at "pm"
            walk_at "wp"
            refine ⟨as ++ ds, _, rfl, ?_⟩
            have kn := kn.drop
            have kn := kn.imp (S := fun H => At H (as ++ ds) ((pre ++ flush (n + 1) B.owns).map Cell.its)) (At.mo _ _) fun h => by
              rw [flush_succ, ← List.append_assoc, List.map_append]
              exact h.1.app h.2
            rw [List.map_append]
            exact kn
        · obtain ⟨as, a7, rfl, kn⟩ := hp
          have kn : Kn H [] [] H' [(fo, .lst (as.map V.ref)), (d, .dK (spotsK h Bs 0 []))] [] (fun H => At H as ((pre ++ flush h B.owns).map Cell.its)) := kn
          have hBA2 := hBA.same kn.fr.toSame
          have hb := hBA2.hb
          have lpn : (flush h B.owns).length ≤ 50000 := by
            rw [flush_len]
            exact Nat.le_trans (Nat.mul_le_mul h5 hok.o) (by decide)
          have las : as.length = pre.length + (flush h B.owns).length := by
            have := kn.pp.len
            rw [List.length_map, List.length_append] at this
            exact this
          walk_at "wp"
          have hst := hBA2.t.st
          cases e2 : B.settle with
          | none =>
            rw [e2] at hst
            have e3 : A.sv = .non := hst
            rw [e3]
            walk_at "wp"
            refine ⟨as, _, _, rfl, ?_⟩
            rw [htj]
            unfold laidB
            rw [e2, List.append_nil]
            exact kn
          | some c =>
            rw [e2] at hst
            obtain ⟨t, e3, ht⟩ := hst
            obtain ⟨s1, s2, s3⟩ := hL.s B (List.mem_of_getElem? eB) c e2
            rw [e3] at hb
            rw [e3]
            walk_at "wp"
            refine ⟨t, d, (h : Int), _, c, spOf h Bs, rfl, rfl, rfl, by omega, by omega, ht, kn.l 1 rfl, s1, s2, fun g hg => ?_, fun a2 H3 sm h3 => ?_⟩
            · obtain ⟨nn, hnn⟩ := s3 g hg
              unfold spOf
              rw [hnn]
            · have kn := (kn.same sm).tps (T' := [(a2, (led (spOf h Bs) h c).its)]) (fun q hq => by
                have e : q = (a2, (led (spOf h Bs) h c).its) := by simpa using hq
                rw [e]
                exact h3)
              walk_at "wp"
              refine w_append kn 0 rfl (by rw [List.length_map]; omega) fun H4 kn => ?_
              walk_at "pm"
              walk_at "wp"
              have ha2 := kn.t 0 rfl
              refine ⟨as ++ [a2], _, _, rfl, ?_⟩
              have kn := (kn.imp (S := fun H => At H (as ++ [a2]) ((pre ++ laidB (spOf h Bs) h B).map Cell.its)) (At.mo _ _) fun hh => by
                unfold laidB
                rw [e2, ← List.append_assoc, List.map_append]
                exact hh.app (.one ha2)).noT
              rw [htj, List.map_append]
              exact kn
      · obtain ⟨as, a4, a7, rfl, kn⟩ := hp
        rw [List.length_map, la, List.take_length] at kn
        walk_at "wp"
        refine w_tupOfL kn (SqL.of (kn.l 0 rfl)) fun r H3 kn => ?_
        exact q r as H3 kn.fr.toSame (kn.t 0 rfl) kn.pp
end
end Hue
set_option Elab.async false
set_option linter.all false
set_option maxRecDepth 100000
set_option maxHeartbeats 4000000
set_option autoImplicit false
namespace Hue
open PySem PySem.Spec PyProof.Rows L2
def N_widened : List Str := [("code" : Str), ("votes" : Str), ("blocks" : Str)]
theorem sc_widened : FnScope N_widened [("code" : Str), ("votes" : Str)] (defScope s_widened) := ⟨rfl, rfl, rfl, by decide +kernel, rfl, by decide +kernel, by decide +kernel⟩
/-- no code of one hue -/
def CodeNot (H : Hp) (x : V) : Prop := NotTup H x ∨ (∃ a vs, x = .ref a ∧ H a = some (.tup vs) ∧ vs.length ≠ 4) ∨ ∃ a C, x = .ref a ∧ IsCode H a C ∧ C.Ok0 ∧ (C.cells = [] ∨ C.votes.length ≠ 1)
def VotesNot (H : Hp) (y : V) : Prop := NotTup H y ∨ ∃ a vs, y = .ref a ∧ H a = some (.tup vs) ∧ (∀ v ∈ vs, flatV v = true) ∧ votesB vs = false
def rWidened (K : PySem.W.Frag) : V → V → Hp → VK → XK → Prop := fun x y H Q E => (CodeNot H x ∧ ∀ H', Same H H' → E (.ref (He.ga K "BadCode")) none H') ∨
  ∃ a C, x = .ref a ∧ IsCode H a C ∧ C.Ok ∧ C.votes.length = 1 ∧ ((VotesNot H y ∧ ∀ H', Same H H' → E (.ref (He.ga K "BadVotes")) none H') ∨
    ∃ va vs, y = .ref va ∧ H va = some (.tup (vs.map V.int)) ∧ VotesOk vs ∧ ((4000 < sumMany vs.length (blocksOf C.cells) ∧ (blocksOf C.cells).length ≤ 10000 ∧ ∀ H', Same H H' → E (.ref (He.ga K "TooLarge")) none H') ∨
      (sumMany vs.length (blocksOf C.cells) ≤ 4000 ∧ LayOk vs.length (blocksOf C.cells) ∧ ∀ r H', Same H H' → IsCode H' r ⟨vs, C.size, layP vs.length (blocksOf C.cells), C.bank⟩ → Q (.ref r) H')))
theorem NotTup.same {H H' : Hp} (s : Same H H') {x : V} (h : NotTup H x) : NotTup H' x := by
  cases x with
  | ref a =>
    obtain ⟨xs, e⟩ := h
    exact ⟨xs, s _ _ e⟩
  | _ => exact h
/-- a def's promise with its function's data -/
structure CalF (P : Program) (w : World) (K : PySem.W.Frag) (mg : Str → Option Value) (base : Heap) (CX : CXT) (k : Nat) (x : Str) (st : Stmt) (ps : List Str) (sp : Sp) : Prop where
  ex : ∃ f fd, FnP K x x st f fd ∧ FnOk P w K mg base CX k f fd ps sp ∧ mg x = some (.ref f)
section
variable {P : Program} {w : World} {K : PySem.W.Frag} {mg : Str → Option Value} {base : Heap} {CX : CXT} {x : Str} {st : Stmt} {N ps : List Str} {k : Nat} {sp : Sp}
theorem calF_of (D : DefAt K mg x st) (S : FnScope N ps (defScope st))
    (len : ∀ vs H Q E, sp vs H Q E → vs.length = ps.length)
    (hbody : ∀ (f : Addr) (cdv : Value) (A : Around) (outer : List Env) (s : Shared) (H : Hp) (vs : List V) (Q : VK) (E : XK), Room k (A.deeper (envOfC x (defScope st) s.heap.objs.size f cdv)) → sp vs H Q E →
      ∃ t, PSs (cxOf CX P w K mg base N x (defScope st) f cdv A outer s H E) (defBody st) t ∧ t ⟨fun _ H' => Q .non H', Q, fun _ _ => False, fun _ _ => False⟩ (L2.start N vs) H) : CalF P w K mg base CX (k + 1) x st ps sp := by
  obtain ⟨f, fd, F, g⟩ := D.fd
  exact ⟨f, fd, F, F.ok S len fun cdv A outer s H vs Q E hr h => hbody f cdv A outer s H vs Q E hr h, g⟩
theorem CalF.cal (c : CalF P w K mg base CX k x st ps sp) (hb : ∀ (kV doc pm : Value) (an : Option Addr) (cdv ct : Value) (us : List Value), us.length = ps.length → bindArgs (PySem.W.fnOf x x (defArgs st) (defBody st) (defScope st) .none kV doc pm an cdv ct) ⟨us, []⟩ = pure (ps.zip us)) : Cal P w K mg base CX k x ps sp := by
  obtain ⟨f, fd, F, h, g⟩ := c.ex
  exact ⟨f, fd, h, g, F.kp, F.bindsN hb⟩
end
section
variable {P : Program} {w : World} {K : PySem.W.Frag} {mg : Str → Option Value} {base : Heap}
theorem okF_widened (D : DefAt K mg "widened" s_widened) (T : Txt K mg) (C_is_votes : Cal P w K mg base CX0 2 "is_votes" [("value" : Str)] (Sp1 rIsVotes)) (C_is_code : Cal P w K mg base CX0 6 "is_code" [("value" : Str)] (Sp1 rIsCode))
    (C_blocks_of : Cal P w K mg base CX0 4 "blocks_of" [("cells" : Str)] (Sp1 (rBlocksOf K))) (C_many_cells : Cal P w K mg base CX0 2 "many_cells" [("blocks" : Str), ("hues" : Str)] (Sp2 (rManyCells K)))
    (C_laid : Cal P w K mg base CX0 3 "laid" [("blocks" : Str), ("hues" : Str)] (Sp2 (rLaidP K))) :
    CalF P w K mg base (L2.CX P w) 7 "widened" s_widened [("code" : Str), ("votes" : Str)] (Sp2 (rWidened K)) := by
  refine calF_of D sc_widened (fun vs H Q E h => ?_) (fun f cdv A outer s H vs Q E hr h => ⟨_, ((pss_cons (ps_if (PW.pt (pw_or (pt_not (pt_val (pe_cl C_is_code hr (by decide) pass0 rfl (pa_cons (pv 0) pa_nil)))) (pw_or1 (pt_cmpR op_ne (pe_callB (cr_lenK (K := K)) (by rfl) T.b_len (by decide +kernel) (pa_cons (pe_ix (ix_tupK (K := K)) (pv 0) pe_int (fun _ _ => rfl)) pa_nil)) pe_int (nomark _))))) (pss_one (ps_raise rfl (takes_of rfl rfl rfl rfl) (pmk_own PySem.F.excBase_ValueError T.x_BadCode.1 T.g_BadCode T.x_BadCode.2.1 (raises_own T.x_BadCode.2.2.1 T.x_BadCode.2.2.2) rfl))) pss_nil)
      (pss_cons (ps_if (pt_not (pt_val (pe_cl C_is_votes hr (by decide) pass0 rfl (pa_cons (pv 1) pa_nil)))) (pss_one (ps_raise rfl (takes_of rfl rfl rfl rfl) (pmk_own PySem.F.excBase_ValueError T.x_BadVotes.1 T.g_BadVotes T.x_BadVotes.2.1 (raises_own T.x_BadVotes.2.2.1 T.x_BadVotes.2.2.2) rfl))) pss_nil)
      (pss_cons (ps_set (i := 2) sc_widened.nd rfl (Or.inl rfl) (pe_cl C_blocks_of hr (by decide) pass0 rfl (pa_cons (pe_ix (ix_tupK (K := K)) (pv 0) pe_int (fun _ _ => rfl)) pa_nil)))
      (pss_cons (ps_if (pt_cmpR op_gt (pe_cl C_many_cells hr (by decide) pass0 rfl (pa_cons (pv 2) (pa_cons (pe_callB (cr_lenK (K := K)) (by rfl) T.b_len (by decide +kernel) (pa_cons (pv 1) pa_nil)) pa_nil))) (pe_gi rfl T.i_MOST_CELLS_compiling) (nomark _)) (pss_one (ps_raise rfl (takes_of rfl rfl rfl rfl) (pmk_own PySem.F.excBase_ValueError T.x_TooLarge.1 T.g_TooLarge T.x_TooLarge.2.1 (raises_own T.x_TooLarge.2.2.1 T.x_TooLarge.2.2.2) rfl))) pss_nil)
      (PSs.nox (pss_one (ps_ret (pe_tup (pa_cons (pv 1) (pa_cons (pe_ix (ix_tupK (K := K)) (pv 0) pe_int (fun _ _ => rfl)) (pa_cons (pe_cl C_laid hr (by decide) pass0 rfl (pa_cons (pv 2) (pa_cons (pe_callB (cr_lenK (K := K)) (by rfl) T.b_len (by decide +kernel) (pa_cons (pv 1) pa_nil)) pa_nil))) (pa_cons (pe_ix (ix_tupK (K := K)) (pv 0) pe_int (fun _ _ => rfl)) pa_nil))))))))))))), ?_⟩)
  · obtain ⟨a, b, rfl, _⟩ := h
    rfl
  · obtain ⟨x, y, rfl, h⟩ := h
    rcases h with ⟨hx, q⟩ | ⟨a, C, rfl, hC, hok, hv1, h⟩
    · walk_at "wp"
      rcases hx with hx | ⟨a, vs, rfl, ha, hl⟩ | ⟨a, C, rfl, hC, hok, hx⟩
      · refine .inl ⟨hx, ?_⟩
        walk_at "wp"
        exact q _ fun _ _ e => e
      · refine .inr (.inl ⟨a, vs, rfl, ha, hl, ?_⟩)
        walk_at "wp"
        exact q _ fun _ _ e => e
      · refine .inr (.inr ⟨a, C, rfl, hC, hok, fun H1 s1 => ?_⟩)
        obtain ⟨va, ca, ba, as, hC⟩ := hC
        have kn := ((Kn.start0T (H0 := H) (T := [(a, [.ref va, .int C.size, .ref ca, .ref ba]), (va, C.votes.map V.int)]) (fun q hq => by
          simp only [List.mem_cons, List.not_mem_nil, or_false] at hq
          rcases hq with e | e <;> rw [e]
          · exact hC.top
          · exact hC.vt))).same s1
        rcases hx with hx | hx
        · rw [hx]
          walk_at "wp"
          exact q _ s1
        · walk_at "wp"
          refine kIf_2 (fun _ => ?_) fun _ => ?_
          · walk_at "wp"
            rw [List.length_map]
            refine kIf_d (fun e => absurd (by omega : C.votes.length = 1) hx) fun e => ?_
            walk_at "wp"
            exact q _ s1
          · walk_at "wp"
            exact q _ s1
    · have hC0 := hC
      obtain ⟨wa, ca, ba, as, hC⟩ := hC
      have kn := (Kn.start0T (H0 := H) (T := [(a, [.ref wa, .int C.size, .ref ca, .ref ba]), (wa, C.votes.map V.int)]) (fun q hq => by
          simp only [List.mem_cons, List.not_mem_nil, or_false] at hq
          rcases hq with e | e <;> rw [e]
          · exact hC.top
          · exact hC.vt)).imp (CodeAt.mo a C wa ca ba as) fun _ => hC
      walk_at "wp"
      refine .inr (.inr ⟨a, C, rfl, hC0, hok.to0, fun H1 s1 => ?_⟩)
      rw [decide_eq_true hok.c.1]
      have kn := kn.same s1
      walk_at "wp"
      rw [List.length_map, hv1]
      walk_at "wp"
      rcases h with ⟨hy, q⟩ | ⟨va, vs, rfl, hva, hvo, h⟩
      · rcases hy with hy | ⟨va, vs, rfl, hva, hf, hb⟩
        · refine .inr ⟨hy.same s1, ?_⟩
          walk_at "wp"
          exact q _ s1
        · refine .inl ⟨va, vs, rfl, s1 _ _ hva, hf, fun H2 s2 => ?_⟩
          rw [hb]
          walk_at "wp"
          exact q _ fun b o e => s2 _ _ (s1 _ _ e)
      · refine .inl ⟨va, _, rfl, s1 _ _ hva, fun v hv => ?_, fun H2 s2 => ?_⟩
        · obtain ⟨n, _, rfl⟩ := List.mem_map.mp hv
          rfl
        rw [hvo.b]
        have kn := kn.same s2
        have hC2 := kn.pp
        have kn := kn.tps (T' := [(a, [.ref wa, .int C.size, .ref ca, .ref ba]), (va, vs.map V.int)]) (fun q hq => by
          simp only [List.mem_cons, List.not_mem_nil, or_false] at hq
          rcases hq with e | e <;> rw [e]
          · exact hC2.top
          · exact s2 _ _ (s1 _ _ hva))
        walk_at "wp"
        refine ⟨ca, as, C.cells, rfl, hC2.ct, hC2.cs, hok.c.2, fun c hc => Cell.okV (hok.cn c hc), fun l As H3 s3 hl hB hBk => ?_⟩
        have kn := kn.same s3
        walk_at "wp"
        rw [List.length_map]
        have v1 := hvo.1
        have v5 := hvo.2.1
        have hn : (blocksOf C.cells).length ≤ 10000 := by
          rcases h with ⟨_, z, _⟩ | ⟨_, z, _⟩
          · exact z
          · exact z.n
        refine ⟨l, (vs.length : Int), As, _, rfl, rfl, by omega, by omega, hl, hB, hBk, hn, fun H4 s4 => ?_⟩
        have kn := kn.same s4
        walk_at "wp"
        rcases h with ⟨hm, _, q⟩ | ⟨hm, hL, q⟩
        · refine kIf_d (fun _ => ?_) fun e => absurd hm e
          walk_at "wp"
          exact q _ kn.fr.toSame
        · refine kIf_d (fun e => absurd e (by omega)) fun _ => ?_
          walk_at "wp"
          rw [List.length_map]
          refine ⟨l, vs.length, As, _, rfl, rfl, v1, v5, s4 _ _ hl, hB.imp fun _ _ x => x.same s4, hL, fun r rs H5 s5 hr hrs => ?_⟩
          have kn := (kn.same s5).tps (T' := [(a, [.ref wa, .int C.size, .ref ca, .ref ba]), (va, vs.map V.int), (r, rs.map V.ref)]) (fun q hq => by
            have kn := kn.same s5
            simp only [List.mem_cons, List.not_mem_nil, or_false] at hq
            rcases hq with e | e | e <;> rw [e]
            · exact kn.t 0 rfl
            · exact kn.t 1 rfl
            · exact hr)
          have kn := kn.and (At.mo rs ((layP vs.length (blocksOf C.cells)).map Cell.its)) hrs
          walk_at "wp"
          refine w_kTup kn rfl fun o H6 kn => ?_
          exact q o H6 kn.fr.toSame ⟨va, r, ba, rs, kn.t 0 rfl, kn.t 2 rfl, kn.t 3 rfl, kn.pp.1.bt, kn.pp.2⟩
theorem CalF.widened (c : CalF P w K mg base (L2.CX P w) 7 "widened" s_widened [("code" : Str), ("votes" : Str)] (Sp2 (rWidened K))) : Cal P w K mg base (L2.CX P w) 7 "widened" [("code" : Str), ("votes" : Str)] (Sp2 (rWidened K)) :=
  c.cal fun _ _ _ _ _ _ us hl => match us, hl with | [_, _], _ => rfl
end
end Hue
set_option Elab.async false
set_option linter.all false
set_option maxRecDepth 100000
set_option maxHeartbeats 4000000
set_option autoImplicit false
namespace Hue
open PySem PySem.Spec PyProof.Rows L2
def N_narrowed : List Str := [("code" : Str), ("hue" : Str), ("spots" : Str), ("kept" : Str), ("cell" : Str), ("cells" : Str), ("is_far" : Str)]
theorem sc_narrowed : FnScope N_narrowed [("code" : Str), ("hue" : Str)] (defScope s_narrowed) := ⟨rfl, rfl, rfl, by decide +kernel, rfl, by decide +kernel, by decide +kernel⟩
def isKept (hue : Int) : Cell → Bool
  | .ins x _ => decide (x = hue)
  | _ => true
def keptOf (hue : Int) (cs : List Cell) : List Cell := cs.filter (isKept hue)
def spotAt (hue : Int) (cs : List Cell) (g : Int) : Int := ((keptOf hue (cs.take g.toNat)).length : Nat)
def narC (sp : Int → Int) : Cell → Cell
  | .ins _ i => .ins 0 i
  | .shw p _ => .shw p 1
  | .turn g _ => .turn (sp g) 1
  | .take b _ => .take b 1
  | .goto g => .goto (sp g)
  | c => c
def narrow (hue : Int) (cs : List Cell) : List Cell := (keptOf hue cs).map (narC (spotAt hue cs))
def NotFar (hue : Int) (cs : List Cell) : Prop := keptOf hue cs ≠ [] ∧ ∀ c ∈ keptOf hue cs, ∀ g, c.goal? = some g → spotAt hue cs g ≠ ((keptOf hue cs).length : Nat)
theorem kept_take {hue : Int} {cs : List Cell} {i : Nat} {c : Cell} (h : cs[i]? = some c) : keptOf hue (cs.take (i + 1)) = keptOf hue (cs.take i) ++ (if isKept hue c = true then [c] else []) := by
  unfold keptOf
  rw [List.take_add_one, h, List.filter_append]
  congr 1
  cases e : isKept hue c with
  | true => simp [e]
  | false => simp [e]
def rNarrowed : V → V → Hp → VK → XK → Prop := fun x y H Q _ => ∃ (a : Addr) (C : Code) (hue : Int), x = .ref a ∧ y = .int hue ∧ IsCode H a C ∧ C.Ok ∧ 0 ≤ hue ∧ hue < C.votes.length ∧ NotFar hue C.cells ∧ ∀ r H', Same H H' → IsCode H' r ⟨[1], C.size, narrow hue C.cells, C.bank⟩ → Q (.ref r) H'
section
variable {P : Program} {w : World} {K : PySem.W.Frag} {mg : Str → Option Value} {base : Heap}
theorem ok_narrowed (D : DefAt K mg "narrowed" s_narrowed) (T : Txt K mg) (C_is_from : Cal P w K mg base CX0 2 "is_from" [("value" : Str), ("low" : Str), ("high" : Str)] (Sp3 rFrom)) (C_is_code : Cal P w K mg base CX0 6 "is_code" [("value" : Str)] (Sp1 rIsCode)) :
    Cal P w K mg base (L2.CX P w) 7 "narrowed" [("code" : Str), ("hue" : Str)] (Sp2 rNarrowed) := by
  refine cal_of D sc_narrowed (fun _ _ _ _ _ _ us hl => match us, hl with | [_, _], _ => rfl) (fun vs H Q E h => ?_) (fun f cdv A outer s H vs Q E hr h => ⟨_, ((pss_cons (ps_if (pt_not (pt_val (pe_cl C_is_code hr (by decide) pass0 rfl (pa_cons (pv 0) pa_nil)))) (pss_one (ps_raise rfl (takes_of rfl rfl rfl rfl) (pmk_own PySem.F.excBase_ValueError T.x_BadCode.1 T.g_BadCode T.x_BadCode.2.1 (raises_own T.x_BadCode.2.2.1 T.x_BadCode.2.2.2) rfl))) pss_nil)
      (pss_cons (ps_if (pt_not (pt_val (pe_cl C_is_from hr (by decide) pass0 rfl (pa_cons (pv 1) (pa_cons pe_int (pa_cons (pe_op op_sub (pe_callB (cr_lenK (K := K)) (by rfl) T.b_len (by decide +kernel) (pa_cons (pe_ix (ix_tupK (K := K)) (pv 0) pe_int (fun _ _ => rfl)) pa_nil)) pe_int) pa_nil)))))) (pss_one (ps_raise rfl (takes_of rfl rfl rfl rfl) (pmk_own PySem.F.excBase_ValueError T.x_BadHue.1 T.g_BadHue T.x_BadHue.2.1 (raises_own T.x_BadHue.2.2.1 T.x_BadHue.2.2.2) rfl))) pss_nil)
      (PSs.nox (pss_cons (ps_par (i := 2) (j := 3) (by rfl) sc_narrowed.nd rfl rfl (by decide) rfl rfl (pa_cons (pe_lst pa_nil) (pa_cons (pe_lst pa_nil) pa_nil)) (by rfl))
      (pss_cons (ps_for PassesOwn.never rfl (pi_tupK (K := K) (pe_ix (ix_tupK (K := K)) (pv 0) pe_int (fun _ _ => rfl))) (pg_name (i := 4) sc_narrowed.nd rfl (Or.inl rfl)) (pss_cons (ps_expr (pe_bmK (K := K) PySem.F.plainAttrs_list PySem.F.slot_list_append PySem.F.type_list_append mt_append (pv 2) (pa_cons (pe_callB (cr_lenK (K := K)) (by rfl) T.b_len (by decide +kernel) (pa_cons (pv 3) pa_nil)) pa_nil)))
      (pss_one (ps_if (PW.pt (pw_or (pt_val (pe_callB (cr_isiK (K := K)) (by rfl) T.b_isinstance (by decide +kernel) (pa_cons (pe_ix (ix_tupK (K := K)) (pv 4) pe_int (fun _ _ => rfl)) (pa_cons (pe_bltn (v := .ty "str") (by rfl) T.b_str (by decide +kernel) rfl) pa_nil)))) (pw_or1 (pt_cmpR op_eq (pe_ix (ix_tupK (K := K)) (pv 4) pe_int (fun _ _ => rfl)) (pv 1) (nomark _))))) (pss_one (ps_expr (pe_bmK (K := K) PySem.F.plainAttrs_list PySem.F.slot_list_append PySem.F.type_list_append mt_append (pv 3) (pa_cons (pv 4) pa_nil)))) pss_nil))))
      (pss_cons (ps_par (i := 5) (j := 6) (by rfl) sc_narrowed.nd rfl rfl (by decide) rfl rfl (pa_cons (pe_lst pa_nil) (pa_cons (pe_cmpR (op_eqDK (K := K) hr.units) (pv 3) (pe_lst pa_nil) (nomark _)) pa_nil)) (by rfl))
      (pss_cons (ps_for PassesOwn.never rfl (pi_listK (K := K) (pv 3)) (pg_name (i := 4) sc_narrowed.nd rfl (Or.inl rfl)) (pss_one (ps_if (pt_not (pt_val (pe_callB (cr_isiK (K := K)) (by rfl) T.b_isinstance (by decide +kernel) (pa_cons (pe_ix (ix_tupK (K := K)) (pv 4) pe_int (fun _ _ => rfl)) (pa_cons (pe_bltn (v := .ty "str") (by rfl) T.b_str (by decide +kernel) rfl) pa_nil))))) (pss_one (ps_expr (pe_bmK (K := K) PySem.F.plainAttrs_list PySem.F.slot_list_append PySem.F.type_list_append mt_append (pv 5) (pa_cons (pe_op (op_catAK (K := K)) (pe_tup (pa_cons pe_int pa_nil)) (pe_slice (sl_tupK (K := K)) (pv 4) (po_some pe_int) po_none)) pa_nil)))) (pss_one (ps_if (pt_cmpR (op_inK (K := K)) (pe_ix (ix_tupK (K := K)) (pv 4) pe_int (fun _ _ => rfl)) (pe_tup (pa_cons pe_str (pa_cons pe_str pa_nil))) (by rfl)) (pss_cons (ps_expr (pe_bmK (K := K) PySem.F.plainAttrs_list PySem.F.slot_list_append PySem.F.type_list_append mt_append (pv 5) (pa_cons (pe_op (op_catAK (K := K)) (pe_tup (pa_cons (pe_ix (ix_tupK (K := K)) (pv 4) pe_int (fun _ _ => rfl)) (pa_cons (pe_ix (ix_listK (K := K)) (pv 2) (pe_ix (ix_tupK (K := K)) (pv 4) pe_int (fun _ _ => rfl)) (fun _ _ => rfl)) pa_nil))) (pe_op (op_repA (K := K)) (pe_tup (pa_cons pe_int pa_nil)) (pe_op op_sub (pe_callB (cr_lenK (K := K)) (by rfl) T.b_len (by decide +kernel) (pa_cons (pv 4) pa_nil)) pe_int))) pa_nil)))
      (pss_one (ps_set (i := 6) sc_narrowed.nd rfl (Or.inl rfl) (pe_or (pv 6) (pe_one (pe_cmpR op_eq (pe_ix (ix_listK (K := K)) (pv 2) (pe_ix (ix_tupK (K := K)) (pv 4) pe_int (fun _ _ => rfl)) (fun _ _ => rfl)) (pe_callB (cr_lenK (K := K)) (by rfl) T.b_len (by decide +kernel) (pa_cons (pv 3) pa_nil)) (nomark _))))))) (pss_one (ps_expr (pe_bmK (K := K) PySem.F.plainAttrs_list PySem.F.slot_list_append PySem.F.type_list_append mt_append (pv 5) (pa_cons (pe_ifExp (pt_cmpR op_eq (pe_callB (cr_lenK (K := K)) (by rfl) T.b_len (by decide +kernel) (pa_cons (pv 4) pa_nil)) pe_int (nomark _)) (pe_op (op_catAK (K := K)) (pe_slice (sl_tupK (K := K)) (pv 4) po_none (po_some pe_int)) (pe_tup (pa_cons pe_int pa_nil))) (pv 4)) pa_nil)))))))))
      (pss_one (ps_ret (pe_tup (pa_cons (pe_tup (pa_cons pe_int pa_nil)) (pa_cons (pe_ix (ix_tupK (K := K)) (pv 0) pe_int (fun _ _ => rfl)) (pa_cons (pe_op (op_catAK (K := K)) (pe_callTy (cr_tupK (K := K)) (by rfl) T.b_tuple (by decide +kernel) (pa_cons (pv 5) pa_nil)) (pe_ifExp (pt_val (pv 6)) (pe_tup (pa_cons (pe_tup (pa_cons pe_str pa_nil)) pa_nil)) (pe_tup pa_nil))) (pa_cons (pe_ix (ix_tupK (K := K)) (pv 0) pe_int (fun _ _ => rfl)) pa_nil))))))))))))))), ?_⟩)
  · obtain ⟨a, b, rfl, _⟩ := h
    rfl
  · obtain ⟨x, y, rfl, a, C, hue, rfl, rfl, hC, hok, u0, u1, hfar, q⟩ := h
    have hC0 := hC
    obtain ⟨wa, ca, ba, as, hC⟩ := hC
    have kn := (Kn.start0T (H0 := H) (T := [(a, [.ref wa, .int C.size, .ref ca, .ref ba]), (wa, C.votes.map V.int), (ca, as.map V.ref)]) (fun q hq => by
        simp only [List.mem_cons, List.not_mem_nil, or_false] at hq
        rcases hq with e | e | e <;> rw [e]
        · exact hC.top
        · exact hC.vt
        · exact hC.ct)).imp (CodeAt.mo a C wa ca ba as) fun _ => hC
    have la : as.length = C.cells.length := Code.len hC
    have c4 := hok.c.2
    walk_at "wp"
    refine .inr (.inr ⟨a, C, rfl, hC0, hok.to0, fun H1 s1 => ?_⟩)
    rw [decide_eq_true hok.c.1]
    have kn := kn.same s1
    walk_at "wp"
    rw [List.length_map]
    refine w_from ⟨u0, by omega⟩ ?_
    walk_at "wp"
    refine w_kLst kn rfl fun sl H2 kn => ?_
    walk_at "wp"
    refine w_kLst kn rfl fun kl H3 kn => ?_
    walk_at "wp"
    have okv : ∀ c ∈ C.cells, c.its.all okV = true := fun c hc => Cell.okV (hok.cn c hc)
    refine w_forT (SqT.of (kn.t 2 rfl)) (fun i σ' H' => ∃ (ks : List Addr) (a4 : Option V), σ' = [some (.ref a), some (.int hue), some (.ref sl), some (.ref kl), a4, none, none] ∧
        Kn H [] [] H' [(kl, .lst (ks.map V.ref)), (sl, .lst (((List.range i).map fun j => (((keptOf hue (C.cells.take j)).length : Nat) : Int)).map V.int))] [(a, [.ref wa, .int C.size, .ref ca, .ref ba]), (wa, C.votes.map V.int), (ca, as.map V.ref)] (fun H => CodeAt H a C wa ca ba as ∧ At H ks ((keptOf hue (C.cells.take i)).map Cell.its)))
      ⟨[], none, rfl, kn.and (At.mo _ _) .nil⟩ (fun i σ' H' _ hp => ?_) (fun i x σ' H' hx hi hp => ?_) (fun σ' H' hp => ?_)
    · obtain ⟨_, _, _, kn⟩ := hp
      exact SqT.of (kn.t 2 rfl)
    · obtain ⟨ks, a4, rfl, kn⟩ := hp
      rw [List.length_map, la] at hi
      obtain ⟨bc, ebc, rfl⟩ := At.refs hx
      obtain ⟨its, e1, hbc⟩ := kn.pp.1.cs.get' ebc
      rw [List.getElem?_map] at e1
      obtain ⟨cc, ec, rfl⟩ := Option.map_eq_some_iff.mp e1
      have lks : ks.length = (keptOf hue (C.cells.take i)).length := by
        have := kn.pp.2.len
        rw [List.length_map] at this
        exact this
      have lki : ks.length ≤ i := by
        rw [lks]
        unfold keptOf
        refine Nat.le_trans (List.length_filter_le _ _) ?_
        rw [List.length_take]
        omega
      walk_at "wp"
      refine w_append kn 1 rfl (by rw [List.length_map, List.length_map, List.length_range]; omega) fun H4 kn => ?_
      walk_at "pm"
      have esn : ((List.range i).map fun j => (((keptOf hue (C.cells.take j)).length : Nat) : Int)).map V.int ++ [V.int ((ks.map V.ref).length : Nat)] = ((List.range (i + 1)).map fun j => (((keptOf hue (C.cells.take j)).length : Nat) : Int)).map V.int := by
        rw [List.range_succ, List.map_append, List.map_append, List.length_map, lks]
        rfl
      rw [esn] at kn
      have hbc : H4 bc = some (.tup cc.its) := by
        obtain ⟨its, e1, h2⟩ := kn.pp.1.cs.get' ebc
        rw [List.getElem?_map, ec] at e1
        rw [h2, ← Option.some.inj e1]
      have keep : isKept hue cc = true → rAppend (.ref kl) [.ref bc] H4 fun x H1 => ∃ (ks : List Addr) (b4 : Option V), [some (V.ref a), some (.int hue), some (.ref sl), some (.ref kl), some (.ref bc), none, none] = [some (.ref a), some (.int hue), some (.ref sl), some (.ref kl), b4, none, none] ∧
          Kn H [] [] H1 [(kl, .lst (ks.map V.ref)), (sl, .lst (((List.range (i + 1)).map fun j => (((keptOf hue (C.cells.take j)).length : Nat) : Int)).map V.int))] [(a, [.ref wa, .int C.size, .ref ca, .ref ba]), (wa, C.votes.map V.int), (ca, as.map V.ref)] (fun H => CodeAt H a C wa ca ba as ∧ At H ks ((keptOf hue (C.cells.take (i + 1))).map Cell.its)) := fun hk => by
        refine w_append kn 0 rfl (by rw [List.length_map]; omega) fun H5 kn => ?_
        walk_at "pm"
        have hb5 : H5 bc = some (.tup cc.its) := by
          obtain ⟨its, e1, h2⟩ := kn.pp.1.cs.get' ebc
          rw [List.getElem?_map, ec] at e1
          rw [h2, ← Option.some.inj e1]
        refine ⟨ks ++ [bc], _, rfl, ?_⟩
        rw [kept_take ec, if_pos hk, List.map_append]
        exact kn.imp (S := fun H => CodeAt H a C wa ca ba as ∧ At H (ks ++ [bc]) ((keptOf hue (C.cells.take i) ++ [cc]).map Cell.its)) (fun _ _ t h => ⟨h.1.mono t, h.2.mono t⟩) fun h => ⟨h.1, by
          rw [List.map_append]
          exact h.2.app (.one hb5)⟩
      have knT := kn
      walk_at "wp"
      cases cc with
      | ins x ii =>
        refine w_ixT (SqT.of (show H4 bc = some (.tup (.int x :: ii.its)) from hbc)) atI_0 ?_
        walk_at "wp"
        refine w_ixT (SqT.of (show H4 bc = some (.tup (.int x :: ii.its)) from hbc)) atI_0 ?_
        walk_at "wp"
        refine kIf_d (fun e => ?_) fun e => ?_
        · walk_at "wp"
          exact keep (decide_eq_true e)
        · walk_at "wp"
          refine ⟨ks, _, rfl, ?_⟩
          rw [kept_take ec, if_neg (by show ¬ decide (x = hue) = true; simpa using e), List.append_nil]
          exact kn
      | _ =>
        refine w_ixT (SqT.of hbc) atI_0 ?_
        walk_at "wp"
        exact keep rfl
    · obtain ⟨ks, a4, rfl, kn⟩ := hp
      rw [List.length_map, la] at kn
      rw [List.take_length] at kn
      have lks : ks.length = (keptOf hue C.cells).length := by
        have := kn.pp.2.len
        rw [List.length_map] at this
        exact this
      have lk4 : (keptOf hue C.cells).length ≤ 4000 := Nat.le_trans (List.length_filter_le _ _) c4
      have okk : ∀ c ∈ keptOf hue C.cells, c ∈ C.cells := fun c hc => (List.mem_filter.mp hc).1
      have okx : ∀ xs ∈ (keptOf hue C.cells).map Cell.its, xs.all okV = true := fun xs hx => by
        obtain ⟨c, hc, rfl⟩ := List.mem_map.mp hx
        exact okv c (okk c hc)
      have hne : ks.isEmpty = false := by
        cases ks with
        | nil => exact absurd (List.eq_nil_of_length_eq_zero (lks.symm)) hfar.1
        | cons x xs => rfl
      walk_at "wp"
      refine w_kLst kn rfl fun cl H4 kn => ?_
      walk_at "wp"
      refine w_kLst kn rfl fun o H5 kn => ?_
      refine w_eqE (SqL.of (kn.l 2 rfl)) (At.dp kn.pp.2 okx) (n := 1) (.tD okx) (by decide) (SqL.of (kn.l 0 rfl)) ?_
      have kn := kn.drop
      rw [isEmpty_map, hne]
      walk_at "wp"
      refine w_forL (SqL.of (kn.l 1 rfl)) (fun j σ' H' => ∃ (rs : List Addr) (a4 : Option V), σ' = [some (.ref a), some (.int hue), some (.ref sl), some (.ref kl), a4, some (.ref cl), some (.bl false)] ∧
          Kn H [] [] H' [(cl, .lst (rs.map V.ref)), (kl, .lst (ks.map V.ref)), (sl, .lst (((List.range C.cells.length).map fun j => (((keptOf hue (C.cells.take j)).length : Nat) : Int)).map V.int))] [(a, [.ref wa, .int C.size, .ref ca, .ref ba])] (fun H => (CodeAt H a C wa ca ba as ∧ At H ks ((keptOf hue C.cells).map Cell.its)) ∧ At H rs ((((keptOf hue C.cells).take j).map (narC (spotAt hue C.cells))).map Cell.its)))
        ⟨[], a4, rfl, (kn.and (S := fun H => At H [] []) (At.mo _ _) .nil).tps fun q hq => by
          have e : q = (a, [V.ref wa, .int C.size, .ref ca, .ref ba]) := by simpa using hq
          rw [e]
          exact kn.t 0 rfl⟩ (fun i σ' H' _ hp => ?_) (fun j x σ' H' hx hj hp => ?_) (fun σ' H' hp => ?_)
      · obtain ⟨_, _, _, kn⟩ := hp
        exact SqL.of (kn.l 1 rfl)
      · obtain ⟨rs, a4, rfl, kn⟩ := hp
        rw [List.length_map, lks] at hj
        obtain ⟨bc, ebc, rfl⟩ := At.refs hx
        obtain ⟨its, e1, hbc⟩ := kn.pp.1.2.get' ebc
        rw [List.getElem?_map] at e1
        obtain ⟨cc, ec, rfl⟩ := Option.map_eq_some_iff.mp e1
        have hcm := List.mem_of_getElem? ec
        have hco := hok.cn cc (okk cc hcm)
        have lrs : rs.length = j := by
          have := kn.pp.2.len
          rw [List.length_map, List.length_map, List.length_take] at this
          omega
        have fin : ∀ (t : Addr) (H6 : Hp) (TT : Tps) (b6 : V), b6 = .bl false → Kn H [] [] H6 [(cl, .lst (rs.map V.ref)), (kl, .lst (ks.map V.ref)), (sl, .lst (((List.range C.cells.length).map fun j => (((keptOf hue (C.cells.take j)).length : Nat) : Int)).map V.int))] TT (fun H => (CodeAt H a C wa ca ba as ∧ At H ks ((keptOf hue C.cells).map Cell.its)) ∧ At H rs ((((keptOf hue C.cells).take j).map (narC (spotAt hue C.cells))).map Cell.its)) →
            H6 t = some (.tup (narC (spotAt hue C.cells) cc).its) → ∀ {Z : V → Hp → Prop}, (∀ H7, (∃ (rs : List Addr), H7 bc = some (.tup cc.its) ∧ Kn H [] [] H7 [(cl, .lst (rs.map V.ref)), (kl, .lst (ks.map V.ref)), (sl, .lst (((List.range C.cells.length).map fun j => (((keptOf hue (C.cells.take j)).length : Nat) : Int)).map V.int))] [(a, [.ref wa, .int C.size, .ref ca, .ref ba])] (fun H => (CodeAt H a C wa ca ba as ∧ At H ks ((keptOf hue C.cells).map Cell.its)) ∧ At H rs ((((keptOf hue C.cells).take (j + 1)).map (narC (spotAt hue C.cells))).map Cell.its))) → Z .non H7) → rAppend (.ref cl) [.ref t] H6 Z := fun t H6 TT b6 eb kn ht Z hz => by
          have kn := kn.tps (T' := [(t, (narC (spotAt hue C.cells) cc).its), (a, [.ref wa, .int C.size, .ref ca, .ref ba])]) (fun q hq => by
            simp only [List.mem_cons, List.not_mem_nil, or_false] at hq
            rcases hq with e | e <;> rw [e]
            · exact ht
            · exact kn.pp.1.1.top)
          refine w_append kn 0 rfl (by rw [List.length_map]; omega) fun H7 kn => ?_
          walk_at "pm"
          have ht := kn.t 0 rfl
          have hta := kn.t 1 rfl
          have hb7 : H7 bc = some (.tup cc.its) := by
            obtain ⟨its, e1, h2⟩ := kn.pp.1.2.get' ebc
            rw [List.getElem?_map, ec] at e1
            rw [h2, ← Option.some.inj e1]
          refine hz H7 ⟨rs ++ [t], hb7, ?_⟩
          have kn := (kn.imp (S := fun H => (CodeAt H a C wa ca ba as ∧ At H ks ((keptOf hue C.cells).map Cell.its)) ∧ At H (rs ++ [t]) ((((keptOf hue C.cells).take (j + 1)).map (narC (spotAt hue C.cells))).map Cell.its)) (fun _ _ t h => ⟨⟨h.1.1.mono t, h.1.2.mono t⟩, h.2.mono t⟩) fun h => ⟨h.1, by
            rw [take_map _ ec, List.map_append]
            exact h.2.app (.one ht)⟩).tps (T' := [(a, [.ref wa, .int C.size, .ref ca, .ref ba])]) (fun q hq => by
              have e : q = (a, [V.ref wa, .int C.size, .ref ca, .ref ba]) := by simpa using hq
              rw [e]
              exact hta)
          rw [List.map_append]
          exact kn
        have spot : ∀ g, cc.goal? = some g → atI (((List.range C.cells.length).map fun j => (((keptOf hue (C.cells.take j)).length : Nat) : Int)).map V.int) g = some (.int (spotAt hue C.cells g)) := fun g hg => by
          have hb : 0 ≤ g ∧ g < C.cells.length := by
            cases cc with
            | turn g' w =>
              cases hg
              exact ⟨hco.1, hco.2.1⟩
            | goto g' =>
              cases hg
              exact hco
            | _ => cases hg
          obtain ⟨gn, rfl⟩ := Int.eq_ofNat_of_zero_le hb.1
          refine atI_nat ?_
          rw [List.getElem?_map, List.getElem?_map, List.getElem?_range (by omega)] <;> rfl
        have far : ∀ g, cc.goal? = some g → decide (spotAt hue C.cells g = ((ks.map V.ref).length : Nat)) = false := fun g hg => by
          rw [List.length_map, lks]
          exact decide_eq_false (hfar.2 cc hcm g hg)
        walk_at "wp"
        cases cc with
        | ins x ii =>
          have kn := kn.tps (T' := [(bc, .int x :: ii.its)]) (fun q hq => by
            have e : q = (bc, V.int x :: ii.its) := by simpa using hq
            rw [e]
            exact hbc)
          refine w_ixT (SqT.of hbc) atI_0 ?_
          walk_at "wp"
          refine w_kTup kn rfl fun o H6 kn => ?_
          walk_at "wp"
          refine w_slT kn (SqT.of (kn.t 1 rfl)) (cut_ne _ _ _) fun l H7 kn => ?_
          rw [cut_tail] at kn
          have hle := ii.le
          walk_at "wp"
          refine w_catT kn (SqT.of (kn.t 1 rfl)) (SqT.of (kn.t 0 rfl)) (by rw [List.length_singleton]; omega) (by intro z; cases z) ii.ne fun t H8 kn => ?_
          walk_at "wp"
          refine fin t H8 _ (.bl false) rfl kn (kn.t 0 rfl) fun H9 ⟨rs, hbc, kn⟩ => ?_
          walk_at "wp"
          exact ⟨rs, _, rfl, kn⟩
        | turn g wd =>
          have kn := kn.tps (T' := [(bc, [.str "turn", .int g, .int wd])]) (fun q hq => by
            have e : q = (bc, [V.str "turn", .int g, .int wd]) := by simpa using hq
            rw [e]
            exact hbc)
          refine w_ixT (SqT.of hbc) atI_0 ?_
          walk_at "wp"
          refine w_kTup kn rfl fun o H6 kn => ?_
          walk_at "wp"
          refine w_in (k := true) (.inr (SqT.of (kn.t 0 rfl))) rfl rfl (by decide +kernel) ?_
          walk_at "wp"
          refine w_ixL (SqL.of (kn.l 2 rfl)) (spot g rfl) ?_
          walk_at "wp"
          refine w_kTup kn rfl fun o2 H7 kn => ?_
          walk_at "wp"
          refine w_kTup kn rfl fun o3 H8 kn => ?_
          walk_at "wp"
          refine w_rep1 (SqT.of (kn.t 0 rfl)) (by intro z; cases z) ?_
          refine w_catT kn (SqT.of (kn.t 1 rfl)) (SqT.of (kn.t 0 rfl)) (by show 3 ≤ 100000; decide) (by intro z; cases z) (by intro z; cases z) fun t H9 kn => ?_
          walk_at "wp"
          refine fin t H9 _ (.bl false) rfl kn (kn.t 0 rfl) fun H10 ⟨rs, hbc, kn⟩ => ?_
          walk_at "wp"
          have kn := kn.tps (T' := [(bc, [.str "turn", .int g, .int wd]), (a, [.ref wa, .int C.size, .ref ca, .ref ba])]) (fun q hq => by
            simp only [List.mem_cons, List.not_mem_nil, or_false] at hq
            rcases hq with e | e <;> rw [e]
            · exact hbc
            · exact kn.t 0 rfl)
          walk_at "wp"
          refine w_ixL (SqL.of (kn.l 2 rfl)) (spot g rfl) ?_
          walk_at "wp"
          rw [far g rfl]
          refine ⟨rs, _, rfl, kn.tps fun q hq => ?_⟩
          have e : q = (a, [V.ref wa, .int C.size, .ref ca, .ref ba]) := by simpa using hq
          rw [e]
          exact kn.t 1 rfl
        | goto g =>
          have kn := kn.tps (T' := [(bc, [.str "goto", .int g])]) (fun q hq => by
            have e : q = (bc, [V.str "goto", .int g]) := by simpa using hq
            rw [e]
            exact hbc)
          refine w_ixT (SqT.of hbc) atI_0 ?_
          walk_at "wp"
          refine w_kTup kn rfl fun o H6 kn => ?_
          walk_at "wp"
          refine w_in (k := true) (.inr (SqT.of (kn.t 0 rfl))) rfl rfl (by decide +kernel) ?_
          walk_at "wp"
          refine w_ixL (SqL.of (kn.l 2 rfl)) (spot g rfl) ?_
          walk_at "wp"
          refine w_kTup kn rfl fun o2 H7 kn => ?_
          walk_at "wp"
          refine w_kTup kn rfl fun o3 H8 kn => ?_
          walk_at "wp"
          refine w_rep0 kn (SqT.of (kn.t 0 rfl)) (by intro z; cases z) fun o4 H9 kn => ?_
          refine w_catT0 (SqT.of (kn.t 2 rfl)) (SqT.of (kn.t 0 rfl)) (by show 2 ≤ 100000; decide) (by intro z; cases z) ?_
          walk_at "wp"
          refine fin o2 H9 _ (.bl false) rfl kn (kn.t 2 rfl) fun H10 ⟨rs, hbc, kn⟩ => ?_
          have kn := kn.tps (T' := [(bc, [.str "goto", .int g]), (a, [.ref wa, .int C.size, .ref ca, .ref ba])]) (fun q hq => by
            simp only [List.mem_cons, List.not_mem_nil, or_false] at hq
            rcases hq with e | e <;> rw [e]
            · exact hbc
            · exact kn.t 0 rfl)
          walk_at "wp"
          refine w_ixL (SqL.of (kn.l 2 rfl)) (spot g rfl) ?_
          walk_at "wp"
          rw [far g rfl]
          refine ⟨rs, _, rfl, kn.tps fun q hq => ?_⟩
          have e : q = (a, [V.ref wa, .int C.size, .ref ca, .ref ba]) := by simpa using hq
          rw [e]
          exact kn.t 1 rfl
        | shw p wd =>
          have kn := kn.tps (T' := [(bc, [.str "show", .int p, .int wd])]) (fun q hq => by
            have e : q = (bc, [V.str "show", .int p, .int wd]) := by simpa using hq
            rw [e]
            exact hbc)
          refine w_ixT (SqT.of hbc) atI_0 ?_
          walk_at "wp"
          refine w_kTup kn rfl fun o H6 kn => ?_
          walk_at "wp"
          refine w_in (k := false) (.inr (SqT.of (kn.t 0 rfl))) rfl rfl (by decide +kernel) ?_
          walk_at "wp"
          refine w_slT (hi := some 2) kn (SqT.of (kn.t 1 rfl)) (fun z => absurd (show (2 : Nat) = 3 from z.2) (by decide)) fun l H6 kn => ?_
          walk_at "wp"
          refine w_kTup kn rfl fun l2 H7 kn => ?_
          walk_at "wp"
          refine w_catT kn (SqT.of (kn.t 1 rfl)) (SqT.of (kn.t 0 rfl)) (by show 3 ≤ 100000; decide) (by intro z; cases z) (by intro z; cases z) fun t H8 kn => ?_
          walk_at "wp"
          refine fin t H8 _ (.bl false) rfl kn (kn.t 0 rfl) fun H9 ⟨rs, hbc, kn⟩ => ?_
          walk_at "wp"
          exact ⟨rs, _, rfl, kn⟩
        | take p wd =>
          have kn := kn.tps (T' := [(bc, [.str "take", .int p, .int wd])]) (fun q hq => by
            have e : q = (bc, [V.str "take", .int p, .int wd]) := by simpa using hq
            rw [e]
            exact hbc)
          refine w_ixT (SqT.of hbc) atI_0 ?_
          walk_at "wp"
          refine w_kTup kn rfl fun o H6 kn => ?_
          walk_at "wp"
          refine w_in (k := false) (.inr (SqT.of (kn.t 0 rfl))) rfl rfl (by decide +kernel) ?_
          walk_at "wp"
          refine w_slT (hi := some 2) kn (SqT.of (kn.t 1 rfl)) (fun z => absurd (show (2 : Nat) = 3 from z.2) (by decide)) fun l H6 kn => ?_
          walk_at "wp"
          refine w_kTup kn rfl fun l2 H7 kn => ?_
          walk_at "wp"
          refine w_catT kn (SqT.of (kn.t 1 rfl)) (SqT.of (kn.t 0 rfl)) (by show 3 ≤ 100000; decide) (by intro z; cases z) (by intro z; cases z) fun t H8 kn => ?_
          walk_at "wp"
          refine fin t H8 _ (.bl false) rfl kn (kn.t 0 rfl) fun H9 ⟨rs, hbc, kn⟩ => ?_
          walk_at "wp"
          exact ⟨rs, _, rfl, kn⟩
        | stop =>
          have kn := kn.tps (T' := [(bc, [.str "stop"])]) (fun q hq => by
            have e : q = (bc, [V.str "stop"]) := by simpa using hq
            rw [e]
            exact hbc)
          refine w_ixT (SqT.of hbc) atI_0 ?_
          walk_at "wp"
          refine w_kTup kn rfl fun o H6 kn => ?_
          walk_at "wp"
          refine w_in (k := false) (.inr (SqT.of (kn.t 0 rfl))) rfl rfl (by decide +kernel) ?_
          walk_at "wp"
          refine fin bc H6 _ (.bl false) rfl kn (kn.t 1 rfl) fun H9 ⟨rs, hbc, kn⟩ => ?_
          walk_at "wp"
          exact ⟨rs, _, rfl, kn⟩
        | mark =>
          have kn := kn.tps (T' := [(bc, [.str "mark"])]) (fun q hq => by
            have e : q = (bc, [V.str "mark"]) := by simpa using hq
            rw [e]
            exact hbc)
          refine w_ixT (SqT.of hbc) atI_0 ?_
          walk_at "wp"
          refine w_kTup kn rfl fun o H6 kn => ?_
          walk_at "wp"
          refine w_in (k := false) (.inr (SqT.of (kn.t 0 rfl))) rfl rfl (by decide +kernel) ?_
          walk_at "wp"
          refine fin bc H6 _ (.bl false) rfl kn (kn.t 1 rfl) fun H9 ⟨rs, hbc, kn⟩ => ?_
          walk_at "wp"
          exact ⟨rs, _, rfl, kn⟩
      · obtain ⟨rs, a4, rfl, kn⟩ := hp
        rw [List.length_map, lks, List.take_length] at kn
        have lrs : rs.length = (keptOf hue C.cells).length := by
          have := kn.pp.2.len
          rw [List.length_map, List.length_map] at this
          exact this
        walk_at "wp"
        refine w_kTup kn rfl fun v1 H6 kn => ?_
        walk_at "wp"
        refine w_tupOfL kn (SqL.of (kn.l 0 rfl)) fun tc H7 kn => ?_
        walk_at "wp"
        refine w_kTup kn rfl fun e0 H8 kn => ?_
        refine w_catT0 (SqT.of (kn.t 1 rfl)) (SqT.of (kn.t 0 rfl)) (by rw [List.length_map]; omega) (fun z => hfar.1 (List.eq_nil_of_length_eq_zero (by rw [← lrs]; exact (congrArg List.length (List.map_eq_nil_iff.mp z))))) ?_
        walk_at "wp"
        refine w_kTup kn rfl fun r H9 kn => ?_
        exact q r H9 kn.fr.toSame ⟨v1, tc, ba, rs, kn.t 0 rfl, kn.t 3 rfl, kn.t 2 rfl, kn.pp.1.1.bt, kn.pp.2⟩
end
end Hue
set_option Elab.async false
set_option linter.all false
set_option maxRecDepth 100000
set_option maxHeartbeats 4000000
set_option autoImplicit false
namespace Hue
open PySem PySem.Spec PyProof.Rows L2
/-! ### list.count of equal data -/
def rCnt (K : PySem.W.Frag) : V → List V → Hp → VK → Prop := fun x xs H Q => ∃ (p : Addr) (vs : List V) (y : V) (n : Nat) (d : PyData), x = .ref p ∧ xs = [y] ∧ SqL K H p vs ∧ DpAll K H vs (List.replicate n d) ∧ Dp K H y d ∧ ND 60 d ∧ d.plain = true ∧ Q (.int (n : Int)) H
theorem plain_rep {d : PyData} (h : d.plain = true) : ∀ n : Nat, PyData.plainAll (List.replicate n d) = true
  | 0 => rfl
  | n + 1 => by
    show (d.plain && PyData.plainAll (List.replicate n d)) = true
    rw [h, plain_rep h n] <;> rfl
theorem count_rep {d : PyData} (h : PyData.eqv d d = true) : ∀ n : Nat, (List.replicate n d).countP (fun y => PyData.eqv y d) = n
  | 0 => rfl
  | n + 1 => by
    rw [List.replicate_succ, List.countP_cons_of_pos (p := fun y => PyData.eqv y d) h, count_rep h n]
section
variable {X : Cx} {K : PySem.W.Frag}
theorem mt_count0 (hu : X.A.units + 64 < cLine) : MtR X "list.count" (rCnt X.K) := by
  intro pins s σ H x xs v us Q I rx rs h
  obtain ⟨p, vs, y, n, d, rfl, rfl, hp, hv, hy, hn, hpl, q⟩ := h
  cases rx
  cases rs with
  | cons ry rr =>
    cases rr
    obtain ⟨its, rv, p', hz⟩ := I.list hp
    obtain ⟨as, ra⟩ := Dp.readsAll I _ _ _ hv rv
    obtain ⟨bs, rb⟩ := Dp.reads I _ _ _ hy ry
    have hd := hn.2
    have hm : min (PyData.depthAll (List.replicate n d)) d.depth ≤ 60 := Nat.le_trans (Nat.min_le_right _ _) hd
    refine SeqAt.count_list_data (vs := its.toArray) p'.isList (by simpa using ra) rb (plain_rep hpl n) hpl (by omega) ?_
    rw [count_rep (SeqAt.eqv_refl d hn.1)]
    exact ⟨.int (n : Int), H, I.tok _, ⟨_, rfl⟩, q⟩
theorem mt_cnt (hu : X.A.units + 64 < cLine) (h : X.K = K := by rfl) : MtR X "list.count" (rCnt K) := h ▸ mt_count0 hu
end
end Hue
set_option Elab.async false
set_option linter.all false
set_option maxRecDepth 100000
set_option maxHeartbeats 4000000
set_option autoImplicit false
namespace Hue
open PySem PySem.Spec PyProof.Rows L2
def N_law_worth_of : List Str := [("_law_word" : Str), ("_law_one" : Str), ("_law_other" : Str), ("_law_size_here" : Str)]
theorem sc_law_worth_of : FnScope N_law_worth_of [("_law_word" : Str), ("_law_one" : Str), ("_law_other" : Str), ("_law_size_here" : Str)] (defScope s_law_worth_of) := ⟨rfl, rfl, rfl, by decide +kernel, rfl, by decide +kernel, by decide +kernel⟩
def N_law_fresh_hue : List Str := [("_law_code" : Str)]
theorem sc_law_fresh_hue : FnScope N_law_fresh_hue [("_law_code" : Str)] (defScope s_law_fresh_hue) := ⟨rfl, rfl, rfl, by decide +kernel, rfl, by decide +kernel, by decide +kernel⟩
def N_law_hue_done : List Str := [("_law_own" : Str), ("_law_cell" : Str), ("_law_size_here" : Str), ("_law_word" : Str), ("_law_regs" : Str), ("_law_bank" : Str), ("_law_at" : Str)]
theorem sc_law_hue_done : FnScope N_law_hue_done [("_law_own" : Str), ("_law_cell" : Str), ("_law_size_here" : Str)] (defScope s_law_hue_done) := ⟨rfl, rfl, rfl, by decide +kernel, rfl, by decide +kernel, by decide +kernel⟩
/-! ### what is known, in another order, begun anew, put together -/
section
variable {H0 H H' : Hp} {M M1 : List Addr} {R R1 L L' L1 L2_ : Obs} {T T' : Tps} {P P' : Hp → Prop}
theorem Kn.perm (kn : Kn H0 M R H L T P) (p : L.Perm L') : Kn H0 M R H L' T P :=
  kn.obs ((p.map _).nodup_iff.mp kn.nd) fun q hq => p.mem_iff.mpr hq
/-- begun anew at a part -/
theorem Kn.anew (kn : Kn H0 M R H (L1 ++ L2_) T P) : Kn H (L1.map (·.1)) [] H L1 T P :=
  ⟨.refl _ _, fun p hp => (by cases hp), (List.nodup_append.mp (by rw [← List.map_append]; exact kn.nd)).1, fun q hq => kn.nt q (List.mem_append_left _ hq), fun q hq => kn.ats q (List.mem_append_left _ hq), fun q hq => .inl (List.mem_map.mpr ⟨q, hq, rfl⟩), kn.ta, kn.pp, kn.mono⟩
/-- what a callee knows of a part -/
theorem Kn.trans (kn : Kn H0 M R H (L1 ++ L2_) T P) (kn' : Kn H M1 R1 H' L' T' P') (hM : ∀ b ∈ M1, b ∈ L1.map (·.1)) : Kn H0 M R H' (L' ++ L2_) T' (fun H => P H ∧ P' H) := by
  have ow : ∀ b, b ∈ (L1 ++ L2_).map (·.1) → b ∈ M ∨ H0 b = none := fun b hb => by
    obtain ⟨q, hq, e⟩ := List.mem_map.mp hb
    rw [← e]
    exact kn.own q hq
  have nd := kn.nd
  rw [List.map_append] at nd
  have dis : ∀ q ∈ L2_, q.1 ∉ M1 := fun q hq z => (List.nodup_append.mp nd).2.2 q.1 (hM _ z) q.1 (List.mem_map.mpr ⟨q, hq, rfl⟩) rfl
  refine ⟨⟨fun b u h n => kn'.fr.keep b u (kn.fr.keep b u h n) fun z => ?_, kn.fr.tup.trans kn'.fr.tup⟩, kn.ro, ?_, fun q hq => ?_, fun q hq => ?_, fun q hq => ?_, kn'.ta, ⟨kn.mono _ _ kn'.fr.tup kn.pp, kn'.pp⟩, fun _ _ t h => ⟨kn.mono _ _ t h.1, kn'.mono _ _ t h.2⟩⟩
  · rcases ow b (by rw [List.map_append]; exact List.mem_append_left _ (hM b z)) with w | w
    · exact n w
    · rw [w] at h
      cases h
  · rw [List.map_append]
    refine List.nodup_append.mpr ⟨kn'.nd, (List.nodup_append.mp nd).2.1, fun a ha b hb e => ?_⟩
    subst e
    obtain ⟨q, hq, rfl⟩ := List.mem_map.mp ha
    rcases kn'.own q hq with z | z
    · exact (List.nodup_append.mp nd).2.2 q.1 (hM _ z) q.1 hb rfl
    · obtain ⟨r, hr, e2⟩ := List.mem_map.mp hb
      have := kn.ats r (List.mem_append_right _ hr)
      rw [e2, z] at this
      cases this
  · rcases List.mem_append.mp hq with hq | hq
    · exact kn'.nt q hq
    · exact kn.nt q (List.mem_append_right _ hq)
  · rcases List.mem_append.mp hq with hq | hq
    · exact kn'.ats q hq
    · exact kn'.fr.keep _ _ (kn.ats q (List.mem_append_right _ hq)) (dis q hq)
  · rcases List.mem_append.mp hq with hq | hq
    · rcases kn'.own q hq with z | z
      · exact ow q.1 (by rw [List.map_append]; exact List.mem_append_left _ (hM _ z))
      · by_cases hm : q.1 ∈ M
        · exact .inl hm
        · refine .inr ?_
          cases e : H0 q.1 with
          | none => rfl
          | some u =>
            have := kn.fr.keep _ _ e hm
            rw [z] at this
            cases this
    · exact kn.own q (List.mem_append_right _ hq)
end
/-! ### the machine -/
structure HueV where
  regs : List Int
  cells : List Int
  slot : Option Int
structure HA where
  d : Addr
  r : Addr
  c : Addr
def slotV : Option Int → V
  | none => .non
  | some n => .int n
section
variable {H : Hp} {Q : VK} {n : Int}
theorem w_notN_sn (h : Q (.bl false) H) : rNotN (slotV none) .non H Q := w_notN_n h
theorem w_notN_ss (h : Q (.bl true) H) : rNotN (slotV (some n)) .non H Q := w_notN_i h
theorem w_isN_sn (h : Q (.bl true) H) : rIsN (slotV none) .non H Q := w_isN_n h
theorem w_isN_ss (h : Q (.bl false) H) : rIsN (slotV (some n)) .non H Q := w_isN_i h
end
def hK : List Str := [("registers" : Str), ("cells" : Str), ("slot" : Str)]
theorem nd_h : hK.Nodup := by decide +kernel
abbrev oHue (A : HA) (s : Option Int) : HO := .dK (zipK hK [.ref A.r, .ref A.c, slotV s])
def hTri (A : HA) (X : HueV) : Obs := [(A.d, oHue A X.slot), (A.r, .lst (X.regs.map V.int)), (A.c, .lst (X.cells.map V.int))]
/-- values in range -/
def InR (m : Int) (ns : List Int) : Prop := ∀ n ∈ ns, 0 ≤ n ∧ n < m
structure HueV.Ok (m : Int) (nb : Nat) (X : HueV) : Prop where
  r : X.regs.length = 8
  rr : InR m X.regs
  c : X.cells.length = nb
  cc : InR m X.cells
def worthP (w : Str) (x y m : Int) : Int :=
  if w = ("plus" : Str) then (x + y) % m else if w = ("minus" : Str) then (x - y) % m else if w = ("times" : Str) then (x * y) % m else if w = ("rest" : Str) then (if y ≠ 0 then x % y else 0)
  else if w = ("less" : Str) then (if x < y then 1 else 0) else (if x = y then 1 else 0)
def at0 (ns : List Int) (i : Int) : Int := (ns[i.toNat]?).getD 0
def doneP (m : Int) (X : HueV) : Ins → HueV
  | .set b n => { X with regs := X.regs.set b.toNat n }
  | .offer b => { X with slot := some (at0 X.regs b) }
  | .get b c ba le => { X with regs := X.regs.set b.toNat (at0 X.cells (ba + at0 X.regs c % le)) }
  | .put b c ba le => { X with cells := X.cells.set (ba + at0 X.regs c % le).toNat (at0 X.regs b) }
  | .two w b c d => { X with regs := X.regs.set b.toNat (worthP w (at0 X.regs c) (at0 X.regs d) m) }
def rWorth : V → V → V → V → Hp → VK → XK → Prop := fun x y z u H Q _ => ∃ (w : Str) (i j m : Int), x = .str w ∧ y = .int i ∧ z = .int j ∧ u = .int m ∧ w ∈ twos ∧ 0 ≤ i ∧ i < m ∧ 0 ≤ j ∧ j < m ∧ m ≤ 10000 ∧ Q (.int (worthP w i j m)) H
def rHueDone : V → V → V → Hp → VK → XK → Prop := fun x y z H Q _ => ∃ (A : HA) (X : HueV) (a : Addr) (m h : Int) (nb : Nat) (i : Ins), x = .ref A.d ∧ y = .ref a ∧ z = .int m ∧ 2 ≤ m ∧ m ≤ 10000 ∧ H a = some (.tup (Cell.ins h i).its) ∧ i.Ok m nb ∧ X.Ok m nb ∧ Kn H (hTri A X |>.map (·.1)) [] H (hTri A X) [] (fun _ => True) ∧
  ∀ H', Kn H (hTri A X |>.map (·.1)) [] H' (hTri A (doneP m X i)) [] (fun _ => True) → Q .non H'
def rFresh : V → Hp → VK → XK → Prop := fun x H Q _ => ∃ (a : Addr) (C : Code), x = .ref a ∧ IsCode H a C ∧ ∀ (A : HA) H', Kn H [] [] H' (hTri A ⟨List.replicate 8 0, C.bank, none⟩) [] (fun _ => True) → Q (.ref A.d) H'
theorem at0_get {ns : List Int} {i : Int} (h0 : 0 ≤ i) (h1 : i < ns.length) : atI (ns.map V.int) i = some (.int (at0 ns i)) := by
  obtain ⟨j, rfl⟩ := Int.eq_ofNat_of_zero_le h0
  have hj : j < ns.length := by omega
  refine atI_nat ?_
  unfold at0
  rw [List.getElem?_map]
  show Option.map V.int ns[j]? = some (.int ((ns[j]?).getD 0))
  rw [List.getElem?_eq_getElem hj] <;> rfl
theorem at0_in {m : Int} {ns : List Int} (h : InR m ns) {i : Int} (h0 : 0 ≤ i) (h1 : i < ns.length) : 0 ≤ at0 ns i ∧ at0 ns i < m := by
  obtain ⟨j, rfl⟩ := Int.eq_ofNat_of_zero_le h0
  have hj : j < ns.length := by omega
  have e : at0 ns (j : Int) = ns[j] := by
    unfold at0
    show (ns[j]?).getD 0 = _
    rw [List.getElem?_eq_getElem hj] <;> rfl
  rw [e]
  exact h _ (List.getElem_mem hj)
theorem set_int {ns : List Int} {j : Nat} {n : Int} : (ns.map V.int).set j (.int n) = (ns.set j n).map V.int := by
  rw [List.map_set]
section
variable {P : Program} {w : World} {K : PySem.W.Frag} {mg : Str → Option Value} {base : Heap}
theorem ok_law_worth_of (D : DefAt K mg "_law_worth_of" s_law_worth_of) (T : Txt K mg) : Cal P w K mg base CX0 1 "_law_worth_of" [("_law_word" : Str), ("_law_one" : Str), ("_law_other" : Str), ("_law_size_here" : Str)] (Sp4 rWorth) := by
  refine cal_of D sc_law_worth_of (fun _ _ _ _ _ _ us hl => match us, hl with | [_, _, _, _], _ => rfl) (fun vs H Q E h => ?_) (fun f cdv A outer s H vs Q E hr h => ⟨_, PSs.nox ((pss_cons (ps_if (pt_cmpR op_eq (pv 0) pe_str (nomark _)) (pss_one (ps_ret (pe_op op_mod (pe_callTy cr_int (by rfl) T.b_int (by decide +kernel) (pa_cons (pe_op op_add (pv 1) (pv 2)) pa_nil)) (pv 3)))) pss_nil)
      (pss_cons (ps_if (pt_cmpR op_eq (pv 0) pe_str (nomark _)) (pss_one (ps_ret (pe_op op_mod (pe_callTy cr_int (by rfl) T.b_int (by decide +kernel) (pa_cons (pe_op op_sub (pv 1) (pv 2)) pa_nil)) (pv 3)))) pss_nil)
      (pss_cons (ps_if (pt_cmpR op_eq (pv 0) pe_str (nomark _)) (pss_one (ps_ret (pe_op op_mod (pe_callTy cr_int (by rfl) T.b_int (by decide +kernel) (pa_cons (pe_op op_mul (pv 1) (pv 2)) pa_nil)) (pv 3)))) pss_nil)
      (pss_cons (ps_if (pt_cmpR op_eq (pv 0) pe_str (nomark _)) (pss_one (ps_ret (pe_ifExp (pt_cmpR op_ne (pv 2) pe_int (nomark _)) (pe_op op_mod (pe_callTy cr_int (by rfl) T.b_int (by decide +kernel) (pa_cons (pv 1) pa_nil)) (pv 2)) pe_int))) pss_nil)
      (pss_one (ps_ret (pe_ifExp (pt_cmpR op_eq (pv 0) pe_str (nomark _)) (pe_callTy cr_int (by rfl) T.b_int (by decide +kernel) (pa_cons (pe_cmpR op_lt (pv 1) (pv 2) (nomark _)) pa_nil)) (pe_callTy cr_int (by rfl) T.b_int (by decide +kernel) (pa_cons (pe_cmpR op_eq (pv 1) (pv 2) (nomark _)) pa_nil)))))))))), ?_⟩)
  · obtain ⟨a, b, c, d, rfl, _⟩ := h
    rfl
  · obtain ⟨x, y, z, u, rfl, wd, i, j, m, rfl, rfl, rfl, rfl, hw, i0, i1, j0, j1, hm, q⟩ := h
    unfold twos at hw
    simp only [List.mem_cons, List.not_mem_nil, or_false] at hw
    rcases hw with rfl | rfl | rfl | rfl | rfl | rfl
    · walk_at "wp"
      refine w_rI (by show (0 : Int) < m; omega) ?_
      exact q
    · walk_at "wp"
      refine w_rI (by show (0 : Int) < m; omega) ?_
      exact q
    · walk_at "wp"
      refine w_rI (.inl ⟨by omega, by omega⟩) ?_
      walk_at "wp"
      refine w_rI (by show (0 : Int) < m; omega) ?_
      exact q
    · have e : worthP ("rest" : Str) i j m = if j ≠ 0 then i % j else 0 := rfl
      rw [e] at q
      walk_at "wp"
      refine kIf_d (fun e => ?_) fun e => ?_
      · walk_at "wp"
        rw [if_neg (by simpa using e)] at q
        exact q
      · walk_at "wp"
        refine w_rI (by show (0 : Int) < j; omega) ?_
        rw [if_pos e] at q
        exact q
    · have e : worthP ("less" : Str) i j m = if i < j then 1 else 0 := rfl
      rw [e] at q
      walk_at "wp"
      by_cases z : i < j
      · rw [if_pos z] at q
        rw [decide_eq_true z]
        exact q
      · rw [if_neg z] at q
        rw [decide_eq_false z]
        exact q
    · have e : worthP ("same" : Str) i j m = if i = j then 1 else 0 := rfl
      rw [e] at q
      walk_at "wp"
      by_cases z : i = j
      · rw [if_pos z] at q
        rw [decide_eq_true z]
        exact q
      · rw [if_neg z] at q
        rw [decide_eq_false z]
        exact q
theorem ok_law_fresh_hue (D : DefAt K mg "_law_fresh_hue" s_law_fresh_hue) (T : Txt K mg) : Cal P w K mg base CX0 1 "_law_fresh_hue" [("_law_code" : Str)] (Sp1 rFresh) := by
  refine cal_of D sc_law_fresh_hue (fun _ _ _ _ _ _ us hl => match us, hl with | [_], _ => rfl) (fun vs H Q E h => ?_) (fun f cdv A outer s H vs Q E hr h => ⟨_, PSs.nox ((pss_one (ps_ret (pe_disp (pps_cons pe_str (pe_op op_rep (pe_lst (pa_cons pe_int pa_nil)) pe_int) (pps_cons pe_str (pe_callTy (cr_lstK (K := K)) (by rfl) T.b_list (by decide +kernel) (pa_cons (pe_ix (ix_tupK (K := K)) (pv 0) pe_int (fun _ _ => rfl)) pa_nil)) (pps_cons pe_str pe_non pps_nil))) (by rfl) (by rfl) (fun z => by cases z) (by decide))))), ?_⟩)
  · obtain ⟨a, rfl, _⟩ := h
    rfl
  · obtain ⟨x, rfl, a, C, rfl, hC, q⟩ := h
    obtain ⟨wa, ca, ba, as, hC⟩ := hC
    have kn := Kn.start0T (H0 := H) (T := [(a, [.ref wa, .int C.size, .ref ca, .ref ba]), (ba, C.bank.map V.int)]) (fun q hq => by
      simp only [List.mem_cons, List.not_mem_nil, or_false] at hq
      rcases hq with e | e <;> rw [e]
      · exact hC.top
      · exact hC.bt)
    walk_at "wp"
    refine w_disp kn fun d H1 kn => ?_
    walk_at "wp"
    refine w_kLst kn rfl fun o H2 kn => ?_
    walk_at "wp"
    refine ⟨o, 8, [.int 0], rfl, rfl, kn.l 0 rfl, by decide, by decide, by decide, fun r hr => ?_⟩
    have kn := kn.new (.lst ((List.replicate 8 (0 : Int)).map V.int)) hr rfl
    walk_at "wp"
    refine w_lstOf kn (.inr (SqT.of (kn.t 1 rfl))) fun c H4 kn => ?_
    walk_at "wp"
    refine w_kDisp kn 3 rfl hK [.ref r, .ref c, .non] nd_h rfl rfl rfl fun H5 kn => ?_
    walk_at "pm"
    have kn := kn.pm [3, 1, 0] (by decide)
    walk_at "pm"
    exact q ⟨d, r, c⟩ H5 kn.noT
theorem ok_law_hue_done (D : DefAt K mg "_law_hue_done" s_law_hue_done) (T : Txt K mg) (C_law_worth_of : Cal P w K mg base CX0 1 "_law_worth_of" [("_law_word" : Str), ("_law_one" : Str), ("_law_other" : Str), ("_law_size_here" : Str)] (Sp4 rWorth)) :
    Cal P w K mg base CX0 2 "_law_hue_done" [("_law_own" : Str), ("_law_cell" : Str), ("_law_size_here" : Str)] (Sp3 rHueDone) := by
  refine cal_of D sc_law_hue_done (fun _ _ _ _ _ _ us hl => match us, hl with | [_, _, _], _ => rfl) (fun vs H Q E h => ?_) (fun f cdv A outer s H vs Q E hr h => ⟨_, PSs.nox ((pss_cons (ps_par3 (i := 3) (j := 4) (l := 5) (by rfl) sc_law_hue_done.nd rfl rfl rfl (by decide) (by decide) (by decide) rfl rfl rfl (pa_cons (pe_ix (ix_tupK (K := K)) (pv 1) pe_int (fun _ _ => rfl)) (pa_cons (pe_dget (hu_of hr) (pv 0) pe_str (fun _ _ => rfl)) (pa_cons (pe_dget (hu_of hr) (pv 0) pe_str (fun _ _ => rfl)) pa_nil))) (by rfl))
      (pss_one (ps_if (pt_cmpR op_eq (pv 3) pe_str (nomark _)) (pss_one (ps_asg (pe_ix (ix_tupK (K := K)) (pv 1) pe_int (fun _ _ => rfl)) (pg_sub (pv 4) (pe_ix (ix_tupK (K := K)) (pv 1) pe_int (fun _ _ => rfl)) set_list))) (pss_one (ps_if (pt_cmpR op_eq (pv 3) pe_str (nomark _)) (pss_one (ps_dput (hu_of hr) (pv 0) pe_str (pe_ix (ix_listK (K := K)) (pv 4) (pe_ix (ix_tupK (K := K)) (pv 1) pe_int (fun _ _ => rfl)) (fun _ _ => rfl)) rfl)) (pss_one (ps_if (pt_cmpR (op_inK (K := K)) (pv 3) (pe_lst (pa_cons pe_str (pa_cons pe_str pa_nil))) (by rfl)) (pss_cons (ps_set (i := 6) sc_law_hue_done.nd rfl (Or.inl rfl) (pe_op op_add (pe_ix (ix_tupK (K := K)) (pv 1) pe_int (fun _ _ => rfl)) (pe_op op_mod (pe_ix (ix_listK (K := K)) (pv 4) (pe_ix (ix_tupK (K := K)) (pv 1) pe_int (fun _ _ => rfl)) (fun _ _ => rfl)) (pe_ix (ix_tupK (K := K)) (pv 1) pe_int (fun _ _ => rfl)))))
      (pss_one (ps_if (pt_cmpR op_eq (pv 3) pe_str (nomark _)) (pss_one (ps_asg (pe_ix (ix_listK (K := K)) (pv 5) (pv 6) (fun _ _ => rfl)) (pg_sub (pv 4) (pe_ix (ix_tupK (K := K)) (pv 1) pe_int (fun _ _ => rfl)) set_list))) (pss_one (ps_asg (pe_ix (ix_listK (K := K)) (pv 4) (pe_ix (ix_tupK (K := K)) (pv 1) pe_int (fun _ _ => rfl)) (fun _ _ => rfl)) (pg_sub (pv 5) (pv 6) set_list)))))) (pss_one (ps_asg (pe_cl C_law_worth_of hr (by decide) pass0 rfl (pa_cons (pv 3) (pa_cons (pe_ix (ix_listK (K := K)) (pv 4) (pe_ix (ix_tupK (K := K)) (pv 1) pe_int (fun _ _ => rfl)) (fun _ _ => rfl)) (pa_cons (pe_ix (ix_listK (K := K)) (pv 4) (pe_ix (ix_tupK (K := K)) (pv 1) pe_int (fun _ _ => rfl)) (fun _ _ => rfl)) (pa_cons (pv 2) pa_nil))))) (pg_sub (pv 4) (pe_ix (ix_tupK (K := K)) (pv 1) pe_int (fun _ _ => rfl)) set_list))))))))))), ?_⟩)
  · obtain ⟨a, b, c, rfl, _⟩ := h
    rfl
  · obtain ⟨x, y, z, rfl, A, X, a, m, h, nb, i, rfl, rfl, rfl, m0, m1, ha, hi, hX, kn, q⟩ := h
    obtain ⟨hr8, hrr, hc, hcc⟩ := hX
    have reg : ∀ {b : Int}, Reg b → 0 ≤ b ∧ b < X.regs.length ∧ b.toNat < X.regs.length ∧ ((b.toNat : Nat) : Int) = b := fun {b} hb => by
      obtain ⟨h0, h7⟩ := hb
      exact ⟨h0, by omega, by omega, by omega⟩
    have setr : ∀ {b : Int}, Reg b → ixN (X.regs.map V.int).length b = some b.toNat := fun {b} hb => by
      obtain ⟨_, _, h2, h3⟩ := reg hb
      have := ixN_n (n := (X.regs.map V.int).length) (j := b.toNat) (by rw [List.length_map]; exact h2)
      rw [h3] at this
      exact this
    unfold hTri at kn q
    cases i with
    | set b n =>
      have kn := kn.tps (T' := [(a, [.int h, .str "set", .int b, .int n])]) (fun q hq => by
        have e : q = (a, [V.int h, .str "set", .int b, .int n]) := by simpa using hq
        rw [e]
        exact ha)
      walk_at "wp"
      refine w_setL kn 1 rfl (setr hi.1) fun H1 kn => ?_
      walk_at "pm"
      rw [set_int] at kn
      exact q _ kn.noT
    | offer b =>
      have kn := kn.tps (T' := [(a, [.int h, .str "offer", .int b])]) (fun q hq => by
        have e : q = (a, [V.int h, .str "offer", .int b]) := by simpa using hq
        rw [e]
        exact ha)
      obtain ⟨g0, g1, _, _⟩ := reg hi
      walk_at "wp"
      refine w_ixL (SqL.of (kn.l 1 rfl)) (at0_get g0 g1) ?_
      walk_at "wp"
      refine w_kPut kn 0 rfl nd_h rfl 2 rfl rfl fun H1 kn => ?_
      exact q _ kn.noT
    | get b c ba le =>
      obtain ⟨hb, hc1, h1, h2, h3⟩ := hi
      have kn := kn.tps (T' := [(a, [.int h, .str "get", .int b, .int c, .int ba, .int le])]) (fun q hq => by
        have e : q = (a, [V.int h, .str "get", .int b, .int c, .int ba, .int le]) := by simpa using hq
        rw [e]
        exact ha)
      obtain ⟨g0, g1, _, _⟩ := reg hc1
      have f0 := Int.emod_nonneg (at0 X.regs c) (show le ≠ 0 by omega)
      have f1 := Int.emod_lt_of_pos (at0 X.regs c) (show 0 < le by omega)
      walk_at "wp"
      refine w_kLst kn rfl fun o H1 kn => ?_
      walk_at "wp"
      refine w_in (k := true) (.inl (SqL.of (kn.l 0 rfl))) rfl rfl (by decide +kernel) ?_
      have kn := kn.drop
      walk_at "wp"
      refine w_ixL (SqL.of (kn.l 1 rfl)) (at0_get g0 g1) ?_
      walk_at "wp"
      refine w_rI (by show (0 : Int) < le; omega) ?_
      walk_at "wp"
      refine w_ixL (SqL.of (kn.l 2 rfl)) (at0_get (by omega) (by omega)) ?_
      walk_at "wp"
      refine w_setL kn 1 rfl (setr hb) fun H1 kn => ?_
      walk_at "pm"
      rw [set_int] at kn
      exact q _ kn.noT
    | put b c ba le =>
      obtain ⟨hb, hc1, h1, h2, h3⟩ := hi
      have kn := kn.tps (T' := [(a, [.int h, .str "put", .int b, .int c, .int ba, .int le])]) (fun q hq => by
        have e : q = (a, [V.int h, .str "put", .int b, .int c, .int ba, .int le]) := by simpa using hq
        rw [e]
        exact ha)
      obtain ⟨g0, g1, _, _⟩ := reg hc1
      obtain ⟨b0, b1, _, _⟩ := reg hb
      have f0 := Int.emod_nonneg (at0 X.regs c) (show le ≠ 0 by omega)
      have f1 := Int.emod_lt_of_pos (at0 X.regs c) (show 0 < le by omega)
      walk_at "wp"
      refine w_kLst kn rfl fun o H1 kn => ?_
      walk_at "wp"
      refine w_in (k := true) (.inl (SqL.of (kn.l 0 rfl))) rfl rfl (by decide +kernel) ?_
      have kn := kn.drop
      walk_at "wp"
      refine w_ixL (SqL.of (kn.l 1 rfl)) (at0_get g0 g1) ?_
      walk_at "wp"
      refine w_rI (by show (0 : Int) < le; omega) ?_
      walk_at "wp"
      refine w_ixL (SqL.of (kn.l 1 rfl)) (at0_get b0 b1) ?_
      walk_at "wp"
      have hj : ixN (X.cells.map V.int).length (ba + at0 X.regs c % le) = some (ba + at0 X.regs c % le).toNat := by
        have := ixN_n (n := (X.cells.map V.int).length) (j := (ba + at0 X.regs c % le).toNat) (by rw [List.length_map]; omega)
        have e : (((ba + at0 X.regs c % le).toNat : Nat) : Int) = ba + at0 X.regs c % le := by omega
        rw [e] at this
        exact this
      refine w_setL kn 2 rfl hj fun H1 kn => ?_
      walk_at "pm"
      rw [set_int] at kn
      exact q _ kn.noT
    | two wd b c d =>
      obtain ⟨hw, hb, hc1, hd⟩ := hi
      have kn := kn.tps (T' := [(a, [.int h, .str wd, .int b, .int c, .int d])]) (fun q hq => by
        have e : q = (a, [V.int h, .str wd, .int b, .int c, .int d]) := by simpa using hq
        rw [e]
        exact ha)
      obtain ⟨g0, g1, _, _⟩ := reg hc1
      obtain ⟨k0, k1, _, _⟩ := reg hd
      have z1 := at0_in hrr g0 g1
      have z2 := at0_in hrr k0 k1
      have hw' := hw
      unfold twos at hw
      simp only [List.mem_cons, List.not_mem_nil, or_false] at hw
      rcases hw with rfl | rfl | rfl | rfl | rfl | rfl
      all_goals
        walk_at "wp"
        refine w_kLst kn rfl fun o H1 kn => ?_
        walk_at "wp"
        refine w_in (k := false) (.inl (SqL.of (kn.l 0 rfl))) rfl rfl (by decide +kernel) ?_
        have kn := kn.drop
        walk_at "wp"
        refine w_ixL (SqL.of (kn.l 1 rfl)) (at0_get g0 g1) ?_
        walk_at "wp"
        refine w_ixL (SqL.of (kn.l 1 rfl)) (at0_get k0 k1) ?_
        walk_at "wp"
        refine ⟨_, _, _, m, rfl, rfl, rfl, rfl, hw', z1.1, z1.2, z2.1, z2.2, m1, ?_⟩
        walk_at "wp"
        refine w_setL kn 1 rfl (setr hb) fun H1 kn => ?_
        walk_at "pm"
        rw [set_int] at kn
        exact q _ kn.noT
end
end Hue
set_option Elab.async false
set_option linter.all false
set_option maxRecDepth 100000
set_option maxHeartbeats 4000000
set_option autoImplicit false
namespace Hue
open PySem PySem.Spec PyProof.Rows L2
def N_law_weave_agreed : List Str := [("_law_code" : Str), ("_law_hues_here" : Str), ("_law_width" : Str), ("_law_slots_here" : Str), ("_law_slot" : Str), ("_law_one" : Str)]
theorem sc_law_weave_agreed : FnScope N_law_weave_agreed [("_law_code" : Str), ("_law_hues_here" : Str), ("_law_width" : Str)] (defScope s_law_weave_agreed) := ⟨rfl, rfl, rfl, by decide +kernel, rfl, by decide +kernel, by decide +kernel⟩
def N_law_weave_even : List Str := [("_law_hues_here" : Str), ("_law_cell" : Str), ("_law_first" : Str), ("_law_due" : Str), ("_law_some" : Str), ("_law_one" : Str)]
theorem sc_law_weave_even : FnScope N_law_weave_even [("_law_hues_here" : Str), ("_law_cell" : Str)] (defScope s_law_weave_even) := ⟨rfl, rfl, rfl, by decide +kernel, rfl, by decide +kernel, by decide +kernel⟩
def hObsU (As : List HA) (X : HueV) : Obs := As.flatMap fun A => hTri A X
/-- the hues stand, all the same -/
def HsAt (H : Hp) (As : List HA) (X : HueV) : Prop := ∀ A ∈ As, ∀ q ∈ hTri A X, H q.1 = some q.2
theorem HsAt.d {H : Hp} {As : List HA} {X : HueV} (h : HsAt H As X) {A : HA} (hA : A ∈ As) : H A.d = some (oHue A X.slot) := h A hA _ (by unfold hTri; exact List.mem_cons_self)
theorem HsAt.r {H : Hp} {As : List HA} {X : HueV} (h : HsAt H As X) {A : HA} (hA : A ∈ As) : H A.r = some (.lst (X.regs.map V.int)) := h A hA (A.r, _) (by unfold hTri; exact List.mem_cons_of_mem _ List.mem_cons_self)
theorem HsAt.c {H : Hp} {As : List HA} {X : HueV} (h : HsAt H As X) {A : HA} (hA : A ∈ As) : H A.c = some (.lst (X.cells.map V.int)) := h A hA (A.c, _) (by unfold hTri; exact List.mem_cons_of_mem _ (List.mem_cons_of_mem _ List.mem_cons_self))
theorem HsAt.same {H H' : Hp} (s : Same H H') {As : List HA} {X : HueV} (h : HsAt H As X) : HsAt H' As X := fun A hA q hq => s _ _ (h A hA q hq)
abbrev dRefs (As : List HA) : List V := As.map fun A => V.ref A.d
theorem ha_get {As : List HA} {i : Nat} {x : V} (h : (dRefs As)[i]? = some x) : ∃ A, As[i]? = some A ∧ A ∈ As ∧ x = .ref A.d := by
  rw [List.getElem?_map] at h
  obtain ⟨A, e1, e2⟩ := Option.map_eq_some_iff.mp h
  exact ⟨A, e1, List.mem_of_getElem? e1, e2.symm⟩
theorem cut_all (vs : List V) {n : Int} (h : n = vs.length) : cutV vs none (some n) = vs := by
  subst h
  unfold cutV
  rw [HT.sIx_nat, HT.sIx_none]
  simp
theorem slot_data {s : Option Int} {K : PySem.W.Frag} {H : Hp} : ∀ n : Nat, DpAll K H (List.replicate n (slotV s)) (List.replicate n (toD (slotV s)))
  | 0 => .nil
  | n + 1 => .cons (dp_flat (by cases s <;> rfl)) (slot_data n)
def rAgreed : V → V → V → Hp → VK → XK → Prop := fun x y z H Q _ => ∃ (a hl : Addr) (C : Code) (As : List HA) (X : HueV), x = .ref a ∧ y = .ref hl ∧ z = .int As.length ∧ IsCode H a C ∧ VotesOk C.votes ∧ C.votes.length = As.length ∧ H hl = some (.lst (dRefs As)) ∧ HsAt H As X ∧
  ∀ H', Same H H' → Q (slotV X.slot) H'
def rEven : V → V → Hp → VK → XK → Prop := fun x y H Q _ => ∃ (a hl : Addr) (As : List HA) (X : HueV) (c : Cell), x = .ref hl ∧ y = .ref a ∧ 1 ≤ As.length ∧ As.length ≤ 5 ∧ H hl = some (.lst (dRefs As)) ∧ HsAt H As X ∧ H a = some (.tup c.its) ∧
  ((c = .mark ∧ ∀ H', Same H H' → Q (.bl true) H') ∨ ((∃ p, c = .shw p As.length ∨ c = .turn p As.length) ∧ ∀ H', Same H H' → Q (.bl X.slot.isSome) H'))
section
variable {P : Program} {w : World} {K : PySem.W.Frag} {mg : Str → Option Value} {base : Heap}
theorem ok_law_weave_agreed (D : DefAt K mg "_law_weave_agreed" s_law_weave_agreed) (T : Txt K mg) : Cal P w K mg base CX0 1 "_law_weave_agreed" [("_law_code" : Str), ("_law_hues_here" : Str), ("_law_width" : Str)] (Sp3 rAgreed) := by
  refine cal_of D sc_law_weave_agreed (fun _ _ _ _ _ _ us hl => match us, hl with | [_, _, _], _ => rfl) (fun vs H Q E h => ?_) (fun f cdv A outer s H vs Q E hr h => ⟨_, PSs.nox ((pss_cons (ps_setLc (i := 3) (own := [("_law_one", 5)]) rfl sc_law_weave_agreed.nd rfl rfl (sw_true rfl rfl rfl (by decide +kernel)) (pi_listK (K := K) (pe_slice (sl_listK (K := K)) (pv 1) po_none (po_some (pv 2)))) (blkOk_by (own := [("_law_one", 5)]) (N := N_law_weave_agreed) (sc := defScope s_law_weave_agreed) (by decide +kernel)) (fun _ _ _ _ _ => (pg_name (i := 5) sc_law_weave_agreed.nd rfl (by first | exact Or.inl rfl | exact Or.inr rfl))) (fun _ _ _ _ _ => pts_nil) (fun _ _ _ _ _ => by exact (pe_dget (hu_of hr) (pv 5) pe_str (fun _ _ => rfl))))
      (pss_cons (ps_for PassesOwn.never rfl (pi_listK (K := K) (pv 3)) (pg_name (i := 4) sc_law_weave_agreed.nd rfl (Or.inl rfl)) (pss_one (ps_if (PW.pt (pw_and (pt_cmpR op_notN1 (pv 4) pe_non (nomark _)) (pw_and1 (pt_cmpR op_ge (pe_bmK (K := K) PySem.F.plainAttrs_list PySem.F.slot_list_count PySem.F.type_list_count (mt_cnt (K := K) hr.units) (pv 3) (pa_cons (pv 4) pa_nil)) (pe_ix (ix_tupK (K := K)) (pe_ix (ix_tupK (K := K)) (pv 0) pe_int (fun _ _ => rfl)) (pe_op op_sub (pv 2) pe_int) (fun _ _ => rfl)) (nomark _))))) (pss_one (ps_ret (pv 4))) pss_nil)))
      (pss_one (ps_ret pe_non))))), ?_⟩)
  · obtain ⟨a, b, c, rfl, _⟩ := h
    rfl
  · obtain ⟨x, y, z, rfl, a, hl, C, As, X, rfl, rfl, rfl, hC, hv, hvl, hh, hA, q⟩ := h
    obtain ⟨va, ca, ba, as, hC⟩ := hC
    have kn := Kn.start0T (H0 := H) (T := [(a, [.ref va, .int C.size, .ref ca, .ref ba]), (va, C.votes.map V.int)]) (fun q hq => by
      simp only [List.mem_cons, List.not_mem_nil, or_false] at hq
      rcases hq with e | e <;> rw [e]
      · exact hC.top
      · exact hC.vt)
    have v1 := hv.1
    have v5 := hv.2.1
    walk_at "wp"
    refine w_slL kn (SqL.of hh) fun l H1 kn => ?_
    rw [cut_all _ (by rw [List.length_map])] at kn
    walk_at "wp"
    refine w_lcL kn (SqL.of (kn.l 0 rfl)) (fun D i H' => Kn H [] [] H' [(D, .lst (List.replicate i (slotV X.slot))), (l, .lst (dRefs As))] [(a, [.ref va, .int C.size, .ref ca, .ref ba]), (va, C.votes.map V.int)] (fun _ => True)) (fun D H' kn => kn) (fun D i H' _ kn => SqL.of (kn.l 1 rfl)) (fun D i x H' hx hi kn => ?_) (fun D H' kn => ?_)
    · obtain ⟨A, _, hm, rfl⟩ := ha_get hx
      have hd := (hA.same kn.fr.toSame).d hm
      rw [List.length_map] at hi
      walk_at "wp"
      refine w_kAcc kn 0 rfl (by rw [List.length_replicate]; omega) fun H3 kn => ?_
      rw [List.replicate_succ']
      exact kn
    · rw [List.length_map] at kn
      walk_at "wp"
      refine w_forL (SqL.of (kn.l 0 rfl)) (fun i σ' H' => ∃ a4, σ' = [some (.ref a), some (.ref hl), some (.int As.length), some (.ref D), a4, none] ∧ (i ≠ 0 → X.slot = none) ∧ Kn H [] [] H' [(D, .lst (List.replicate As.length (slotV X.slot))), (l, .lst (dRefs As))] [(a, [.ref va, .int C.size, .ref ca, .ref ba]), (va, C.votes.map V.int)] (fun _ => True))
        ⟨none, rfl, (fun z => absurd rfl z), kn⟩ (fun i σ' H' _ hp => ?_) (fun i x σ' H' hx hi hp => ?_) (fun σ' H' hp => ?_)
      · obtain ⟨_, _, _, kn⟩ := hp
        exact SqL.of (kn.l 0 rfl)
      · obtain ⟨a4, rfl, h0, kn⟩ := hp
        have ex : x = slotV X.slot := (List.mem_replicate.mp (List.mem_of_getElem? hx)).2
        subst ex
        cases es : X.slot with
        | none =>
          walk_at "wp"
          rw [es] at kn h0
          exact ⟨_, rfl, fun _ => rfl, kn⟩
        | some n =>
          rw [es] at kn q
          walk_at "wp"
          refine ⟨D, _, _, As.length, .int n, rfl, rfl, SqL.of (kn.l 0 rfl), slot_data As.length, .int n, .int, rfl, ?_⟩
          have hlt : As.length - 1 < C.votes.length := by omega
          have e1 : (C.votes.map V.int)[As.length - 1]? = some (.int C.votes[As.length - 1]) := by rw [List.getElem?_map, List.getElem?_eq_getElem hlt] <;> rfl
          have hb := hv.2.2 _ _ (List.getElem?_eq_getElem hlt)
          have e2 : atI (C.votes.map V.int) ((As.length : Int) - 1) = some (.int C.votes[As.length - 1]) := by
            have e3 : (As.length : Int) - 1 = ((As.length - 1 : Nat) : Int) := by omega
            rw [e3]
            exact atI_nat e1
          walk_at "wp"
          refine w_ixT (SqT.of (kn.t 1 rfl)) e2 ?_
          walk_at "wp"
          refine kIf_d (fun _ => ?_) fun e => absurd (show C.votes[As.length - 1] ≤ (As.length : Int) by omega) e
          walk_at "wp"
          exact q _ kn.fr.toSame
      · obtain ⟨a4, rfl, h0, kn⟩ := hp
        rw [List.length_replicate] at h0
        have es := h0 (by omega)
        rw [es] at q
        walk_at "wp"
        exact q _ kn.fr.toSame
theorem ok_law_weave_even (D : DefAt K mg "_law_weave_even" s_law_weave_even) (T : Txt K mg) : Cal P w K mg base CX0 1 "_law_weave_even" [("_law_hues_here" : Str), ("_law_cell" : Str)] (Sp2 rEven) := by
  refine cal_of D sc_law_weave_even (fun _ _ _ _ _ _ us hl => match us, hl with | [_, _], _ => rfl) (fun vs H Q E h => ?_) (fun f cdv A outer s H vs Q E hr h => ⟨_, PSs.nox ((pss_cons (ps_if (pt_cmpR op_eq (pe_ix (ix_tupK (K := K)) (pv 1) pe_int (fun _ _ => rfl)) pe_str (nomark _)) (pss_cons (ps_set (i := 2) sc_law_weave_even.nd rfl (Or.inl rfl) (pe_ix (ix_listK (K := K)) (pv 0) pe_int (fun _ _ => rfl)))
      (pss_cons (ps_set (i := 3) sc_law_weave_even.nd rfl (Or.inr rfl) (pe_tup (pa_cons (pe_dget (hu_of hr) (pv 2) pe_str (fun _ _ => rfl)) (pa_cons (pe_dget (hu_of hr) (pv 2) pe_str (fun _ _ => rfl)) pa_nil))))
      (pss_one (ps_ret (pe_cmpR (op_eqDK (K := K) hr.units) (pe_lc (own := [("_law_one", 5)]) rfl sc_law_weave_even.nd (pi_listK (K := K) (pv 0)) (blkOk_by (own := [("_law_one", 5)]) (N := N_law_weave_even) (sc := defScope s_law_weave_even) (by decide +kernel)) (fun _ _ _ _ _ => (pg_name (i := 5) sc_law_weave_even.nd rfl (by first | exact Or.inl rfl | exact Or.inr rfl))) (fun _ _ _ _ _ => by exact (pts_one (pt_cmpR (op_neDK (K := K) hr.units) (pe_tup (pa_cons (pe_dget (hu_of hr) (pv 5) pe_str (fun _ _ => rfl)) (pa_cons (pe_dget (hu_of hr) (pv 5) pe_str (fun _ _ => rfl)) pa_nil))) (pv 3) (nomark _)))) (fun _ _ _ _ _ => by exact pe_int)) (pe_lst pa_nil) (nomark _)))))) pss_nil)
      (pss_cons (ps_setLc (i := 4) (own := [("_law_one", 5)]) rfl sc_law_weave_even.nd rfl rfl (sw_true rfl rfl rfl (by decide +kernel)) (pi_listK (K := K) (pe_slice (sl_listK (K := K)) (pv 0) po_none (po_some (pe_ix (ix_tupK (K := K)) (pv 1) pe_int (fun _ _ => rfl))))) (blkOk_by (own := [("_law_one", 5)]) (N := N_law_weave_even) (sc := defScope s_law_weave_even) (by decide +kernel)) (fun _ _ _ _ _ => (pg_name (i := 5) sc_law_weave_even.nd rfl (by first | exact Or.inl rfl | exact Or.inr rfl))) (fun _ _ _ _ _ => pts_nil) (fun _ _ _ _ _ => by exact (pe_dget (hu_of hr) (pv 5) pe_str (fun _ _ => rfl))))
      (pss_one (ps_ret (pe_and (pe_cmpR op_notN1 (pe_ix (ix_listK (K := K)) (pv 4) pe_int (fun _ _ => rfl)) pe_non (nomark _)) (pe_one (pe_cmpR op_eq (pe_bmK (K := K) PySem.F.plainAttrs_list PySem.F.slot_list_count PySem.F.type_list_count (mt_cnt (K := K) hr.units) (pv 4) (pa_cons (pe_ix (ix_listK (K := K)) (pv 4) pe_int (fun _ _ => rfl)) pa_nil)) (pe_callB (cr_lenK (K := K)) (by rfl) T.b_len (by decide +kernel) (pa_cons (pv 4) pa_nil)) (nomark _))))))))), ?_⟩)
  · obtain ⟨a, b, rfl, _⟩ := h
    rfl
  · obtain ⟨x, y, rfl, a, hl, As, X, c, rfl, rfl, n1, n5, hh, hA, ha, h⟩ := h
    have hd0 : ∃ A0 As', As = A0 :: As' := by
      cases As with
      | nil => exact absurd n1 (by decide)
      | cons A As => exact ⟨A, As, rfl⟩
    rcases h with ⟨rfl, q⟩ | ⟨⟨p, hc⟩, q⟩
    · have kn := Kn.start1 (xs := [.str "mark"]) ha
      obtain ⟨A0, As', e0⟩ := hd0
      have hm0 : A0 ∈ As := by rw [e0]; exact List.mem_cons_self
      have hd := hA.d hm0
      have e1 : atI (dRefs As) 0 = some (.ref A0.d) := by
        rw [e0]
        exact atI_0
      walk_at "wp"
      refine w_ixL (SqL.of hh) e1 ?_
      walk_at "wp"
      refine w_kTup kn rfl fun du H1 kn => ?_
      have dat : ∀ {A : HA} {t : Addr} {H' : Hp}, Same H H' → A ∈ As → H' t = some (.tup [.ref A.r, .ref A.c]) → Dp K H' (.ref t) (.tuple [.list (X.regs.map PyData.int), .list (X.cells.map PyData.int)]) := fun {A t H'} s hm ht =>
        .tup (SqT.of ht) (.cons (.lst (SqL.of ((hA.same s).r hm)) (dpAll_ints _)) (.cons (.lst (SqL.of ((hA.same s).c hm)) (dpAll_ints _)) .nil))
      have ndd : ND 3 (.tuple [.list (X.regs.map PyData.int), .list (X.cells.map PyData.int)]) := (NDs.cons ((NDs.map (n := 1) fun _ _ => .int).list) (.cons ((NDs.map (n := 1) fun _ _ => .int).list) .nil)).tuple
      walk_at "wp"
      refine w_lcL kn (SqL.of (kn.fr.toSame _ _ hh)) (fun D i H' => Kn H [] [] H' [(D, .lst [])] [(du, [.ref A0.r, .ref A0.c])] (fun _ => True)) (fun D H' kn => kn.tps fun q hq => by
        have e : q = (du, [V.ref A0.r, .ref A0.c]) := by simpa using hq
        rw [e]
        exact kn.t 0 rfl) (fun D i H' _ kn => SqL.of (kn.fr.toSame _ _ hh)) (fun D i x H' hx hi kn => ?_) (fun D H' kn => ?_)
      · obtain ⟨A, _, hm, rfl⟩ := ha_get hx
        have hd := (hA.same kn.fr.toSame).d hm
        walk_at "wp"
        refine w_kTup kn rfl fun t H2 kn => ?_
        walk_at "wp"
        refine w_neR (dat kn.fr.toSame hm (kn.t 0 rfl)) (dat kn.fr.toSame hm0 (kn.t 1 rfl)) ndd (by decide) ?_
        walk_at "wp"
        refine kn.tps fun q hq => ?_
        have e : q = (du, [V.ref A0.r, .ref A0.c]) := by simpa using hq
        rw [e]
        exact kn.t 1 rfl
      · walk_at "wp"
        refine w_kLst kn rfl fun o H2 kn => ?_
        refine w_eqE (SqL.of (kn.l 1 rfl)) .nil (n := 0) .nil (by decide) (SqL.of (kn.l 0 rfl)) ?_
        exact q _ kn.fr.toSame
    · have main : ∀ (wd : Str), wd ≠ ("mark" : Str) → H a = some (.tup [.str wd, .int p, .int As.length]) → ∀ {tt : TS} {D : Ends}, False → tt D [] H := fun _ _ _ _ _ z => z.elim
      rcases hc with rfl | rfl
      · have kn := Kn.start1 (xs := [.str "show", .int p, .int As.length]) ha
        walk_at "wp"
        refine w_slL kn (SqL.of hh) fun l H1 kn => ?_
        rw [cut_all _ (by rw [List.length_map])] at kn
        walk_at "wp"
        refine w_lcL kn (SqL.of (kn.l 0 rfl)) (fun D i H' => Kn H [] [] H' [(D, .lst (List.replicate i (slotV X.slot))), (l, .lst (dRefs As))] [] (fun _ => True)) (fun D H' kn => kn.noT) (fun D i H' _ kn => SqL.of (kn.l 1 rfl)) (fun D i x H' hx hi kn => ?_) (fun D H' kn => ?_)
        · obtain ⟨A, _, hm, rfl⟩ := ha_get hx
          have hd := (hA.same kn.fr.toSame).d hm
          rw [List.length_map] at hi
          walk_at "wp"
          refine w_kAcc kn 0 rfl (by rw [List.length_replicate]; omega) fun H3 kn => ?_
          rw [List.replicate_succ']
          exact kn
        · rw [List.length_map] at kn
          have e0 : atI (List.replicate As.length (slotV X.slot)) 0 = some (slotV X.slot) := by
            obtain ⟨A0, As', e0⟩ := hd0
            rw [e0]
            exact atI_0
          walk_at "wp"
          refine w_ixL (SqL.of (kn.l 0 rfl)) e0 ?_
          cases es : X.slot with
          | none =>
            rw [es] at q
            walk_at "wp"
            exact q _ kn.fr.toSame
          | some n =>
            rw [es] at q kn e0
            walk_at "wp"
            refine w_ixL (SqL.of (kn.l 0 rfl)) e0 ?_
            walk_at "wp"
            refine ⟨D, _, _, As.length, .int n, rfl, rfl, SqL.of (kn.l 0 rfl), slot_data As.length, .int n, .int, rfl, ?_⟩
            walk_at "wp"
            rw [List.length_replicate, decide_eq_true rfl]
            exact q _ kn.fr.toSame
      · have kn := Kn.start1 (xs := [.str "turn", .int p, .int As.length]) ha
        walk_at "wp"
        refine w_slL kn (SqL.of hh) fun l H1 kn => ?_
        rw [cut_all _ (by rw [List.length_map])] at kn
        walk_at "wp"
        refine w_lcL kn (SqL.of (kn.l 0 rfl)) (fun D i H' => Kn H [] [] H' [(D, .lst (List.replicate i (slotV X.slot))), (l, .lst (dRefs As))] [] (fun _ => True)) (fun D H' kn => kn.noT) (fun D i H' _ kn => SqL.of (kn.l 1 rfl)) (fun D i x H' hx hi kn => ?_) (fun D H' kn => ?_)
        · obtain ⟨A, _, hm, rfl⟩ := ha_get hx
          have hd := (hA.same kn.fr.toSame).d hm
          rw [List.length_map] at hi
          walk_at "wp"
          refine w_kAcc kn 0 rfl (by rw [List.length_replicate]; omega) fun H3 kn => ?_
          rw [List.replicate_succ']
          exact kn
        · rw [List.length_map] at kn
          have e0 : atI (List.replicate As.length (slotV X.slot)) 0 = some (slotV X.slot) := by
            obtain ⟨A0, As', e0⟩ := hd0
            rw [e0]
            exact atI_0
          walk_at "wp"
          refine w_ixL (SqL.of (kn.l 0 rfl)) e0 ?_
          cases es : X.slot with
          | none =>
            rw [es] at q
            walk_at "wp"
            exact q _ kn.fr.toSame
          | some n =>
            rw [es] at q kn e0
            walk_at "wp"
            refine w_ixL (SqL.of (kn.l 0 rfl)) e0 ?_
            walk_at "wp"
            refine ⟨D, _, _, As.length, .int n, rfl, rfl, SqL.of (kn.l 0 rfl), slot_data As.length, .int n, .int, rfl, ?_⟩
            walk_at "wp"
            rw [List.length_replicate, decide_eq_true rfl]
            exact q _ kn.fr.toSame
end
end Hue
set_option Elab.async false
set_option linter.all false
set_option maxRecDepth 100000
set_option maxHeartbeats 4000000
set_option autoImplicit false
namespace Hue
open PySem PySem.Spec PyProof.Rows L2
def N_law_weave_marked : List Str := [("_law_code" : Str), ("_law_hues_here" : Str), ("_law_one" : Str), ("_law_states_here" : Str), ("_law_hue" : Str)]
theorem sc_law_weave_marked : FnScope N_law_weave_marked [("_law_code" : Str), ("_law_hues_here" : Str)] (defScope s_law_weave_marked) := ⟨rfl, rfl, rfl, by decide +kernel, rfl, by decide +kernel, by decide +kernel⟩
/-! ### copies of the states -/
def cObs (X : HueV) (ps : List (Addr × Addr)) : Obs := ps.flatMap fun p => [(p.1, .lst (X.regs.map V.int)), (p.2, .lst (X.cells.map V.int))]
theorem cObs_snoc (X : HueV) (ps : List (Addr × Addr)) (p : Addr × Addr) : cObs X (ps ++ [p]) = cObs X ps ++ [(p.1, .lst (X.regs.map V.int)), (p.2, .lst (X.cells.map V.int))] := by
  unfold cObs
  rw [List.flatMap_append]
  simp
theorem cObs_mem {X : HueV} {ps : List (Addr × Addr)} {p : Addr × Addr} (h : p ∈ ps) : (p.1, HO.lst (X.regs.map V.int)) ∈ cObs X ps ∧ (p.2, HO.lst (X.cells.map V.int)) ∈ cObs X ps := by
  unfold cObs
  exact ⟨List.mem_flatMap.mpr ⟨p, h, List.mem_cons_self⟩, List.mem_flatMap.mpr ⟨p, h, List.mem_cons_of_mem _ List.mem_cons_self⟩⟩
abbrev stD (X : HueV) : PyData := .tuple [.list (X.regs.map PyData.int), .list (X.cells.map PyData.int)]
theorem stD_nd (X : HueV) : ND 3 (stD X) := (NDs.cons ((NDs.map (n := 1) fun _ _ => .int).list) (.cons ((NDs.map (n := 1) fun _ _ => .int).list) .nil)).tuple
theorem plain_ints : ∀ ns : List Int, PyData.plainAll (ns.map PyData.int) = true
  | [] => rfl
  | _ :: ns => plain_ints ns
theorem stD_plain (X : HueV) : (stD X).plain = true := by
  show (PyData.plainAll (X.regs.map PyData.int) && (PyData.plainAll (X.cells.map PyData.int) && true)) = true
  rw [plain_ints, plain_ints] <;> rfl
theorem st_dp {K : PySem.W.Frag} {H : Hp} {X : HueV} {t : Addr} {p : Addr × Addr} (ht : H t = some (.tup [.ref p.1, .ref p.2])) (h1 : H p.1 = some (.lst (X.regs.map V.int))) (h2 : H p.2 = some (.lst (X.cells.map V.int))) : Dp K H (.ref t) (stD X) :=
  .tup (SqT.of ht) (.cons (.lst (SqL.of h1) (dpAll_ints _)) (.cons (.lst (SqL.of h2) (dpAll_ints _)) .nil))
theorem st_dps {K : PySem.W.Frag} {H : Hp} {X : HueV} : ∀ {ts : List Addr} {ps : List (Addr × Addr)}, At H ts (ps.map fun p : Addr × Addr => [V.ref p.1, V.ref p.2]) → (∀ p ∈ ps, H p.1 = some (.lst (X.regs.map V.int)) ∧ H p.2 = some (.lst (X.cells.map V.int))) → DpAll K H (ts.map V.ref) (List.replicate ps.length (stD X))
  | [], [], _, _ => .nil
  | [], _ :: _, h, _ => by cases h
  | _ :: _, [], h, _ => by cases h
  | t :: ts, p :: ps, h, hp => by
    have h' : H t :: ts.map H = some (HO.tup [.ref p.1, .ref p.2]) :: (ps.map fun p : Addr × Addr => [V.ref p.1, V.ref p.2]).map (fun xs => some (HO.tup xs)) := h
    injection h' with e1 e2
    obtain ⟨h1, h2⟩ := hp p List.mem_cons_self
    exact .cons (st_dp e1 h1 h2) (st_dps (ts := ts) e2 fun q hq => hp q (List.mem_cons_of_mem _ hq))
def rMarked : V → V → Hp → VK → XK → Prop := fun x y H Q _ => ∃ (a hl : Addr) (C : Code) (As : List HA) (X : HueV), x = .ref a ∧ y = .ref hl ∧ IsCode H a C ∧ VotesOk C.votes ∧ C.votes.length = As.length ∧ X.regs.length ≤ 1000 ∧ X.cells.length ≤ 1000 ∧
  Kn H (hl :: (hObsU As X).map (·.1)) [] H ((hl, .lst (dRefs As)) :: hObsU As X) [] (fun _ => True) ∧
  ∀ (As' : List HA) H', As'.map (fun A => A.d) = As.map (fun A => A.d) → Kn H (hl :: (hObsU As X).map (·.1)) [] H' ((hl, .lst (dRefs As')) :: hObsU As' ⟨X.regs, X.cells, none⟩) [] (fun _ => True) → Q (.bl true) H'
theorem hObsU_cons (A : HA) (As : List HA) (X : HueV) : hObsU (A :: As) X = hTri A X ++ hObsU As X := rfl
theorem hObsU_snoc (A : HA) (As : List HA) (X : HueV) : hObsU (As ++ [A]) X = hObsU As X ++ hTri A X := by
  unfold hObsU
  rw [List.flatMap_append]
  simp
theorem hObsU_mem {A : HA} {As : List HA} {X : HueV} (h : A ∈ As) : ∀ q ∈ hTri A X, q ∈ hObsU As X := fun q hq => List.mem_flatMap.mpr ⟨A, h, hq⟩
theorem perm_tri (pre c a b : Obs) {A : HA} {X : HueV} : (pre ++ (c ++ (a ++ (hTri A X ++ b)))).Perm (hTri A X ++ (pre ++ (c ++ (a ++ b)))) := by
  have p1 : (a ++ (hTri A X ++ b)).Perm (hTri A X ++ (a ++ b)) := List.perm_append_comm_assoc _ _ _
  have p2 : (c ++ (a ++ (hTri A X ++ b))).Perm (hTri A X ++ (c ++ (a ++ b))) := (p1.append_left c).trans (List.perm_append_comm_assoc _ _ _)
  exact (p2.append_left pre).trans (List.perm_append_comm_assoc _ _ _)
section
variable {P : Program} {w : World} {K : PySem.W.Frag} {mg : Str → Option Value} {base : Heap}
theorem ok_law_weave_marked (D : DefAt K mg "_law_weave_marked" s_law_weave_marked) (T : Txt K mg) : Cal P w K mg base CX0 1 "_law_weave_marked" [("_law_code" : Str), ("_law_hues_here" : Str)] (Sp2 rMarked) := by
  refine cal_of D sc_law_weave_marked (fun _ _ _ _ _ _ us hl => match us, hl with | [_, _], _ => rfl) (fun vs H Q E h => ?_) (fun f cdv A outer s H vs Q E hr h => ⟨_, PSs.nox ((pss_cons (ps_setLc (i := 3) (own := [("_law_one", 2)]) rfl sc_law_weave_marked.nd rfl rfl (sw_true rfl rfl rfl (by decide +kernel)) (pi_listK (K := K) (pv 1)) (blkOk_by (own := [("_law_one", 2)]) (N := N_law_weave_marked) (sc := defScope s_law_weave_marked) (by decide +kernel)) (fun _ _ _ _ _ => (pg_name (i := 2) sc_law_weave_marked.nd rfl (by first | exact Or.inl rfl | exact Or.inr rfl))) (fun _ _ _ _ _ => pts_nil) (fun _ _ _ _ _ => by exact (pe_tup (pa_cons (pe_callTy (cr_lstK (K := K)) (by rfl) T.b_list (by decide +kernel) (pa_cons (pe_dget (hu_of hr) (pv 2) pe_str (fun _ _ => rfl)) pa_nil)) (pa_cons (pe_callTy (cr_lstK (K := K)) (by rfl) T.b_list (by decide +kernel) (pa_cons (pe_dget (hu_of hr) (pv 2) pe_str (fun _ _ => rfl)) pa_nil)) pa_nil)))))
      (pss_cons (ps_for PassesOwn.never rfl (pi_listK (K := K) (pv 3)) (pg_name (i := 2) sc_law_weave_marked.nd rfl (Or.inl rfl)) (pss_one (ps_if (pt_cmpR op_ge (pe_bmK (K := K) PySem.F.plainAttrs_list PySem.F.slot_list_count PySem.F.type_list_count (mt_cnt (K := K) hr.units) (pv 3) (pa_cons (pv 2) pa_nil)) (pe_ix (ix_tupK (K := K)) (pe_ix (ix_tupK (K := K)) (pv 0) pe_int (fun _ _ => rfl)) (pe_un un_neg pe_int) (fun _ _ => rfl)) (nomark _)) (pss_cons (ps_for PassesOwn.never rfl (pi_listK (K := K) (pv 1)) (pg_name (i := 4) sc_law_weave_marked.nd rfl (Or.inl rfl)) (pss_one (ps_asg (pe_tup (pa_cons (pe_callTy (cr_lstK (K := K)) (by rfl) T.b_list (by decide +kernel) (pa_cons (pe_ix (ix_tupK (K := K)) (pv 2) pe_int (fun _ _ => rfl)) pa_nil)) (pa_cons (pe_callTy (cr_lstK (K := K)) (by rfl) T.b_list (by decide +kernel) (pa_cons (pe_ix (ix_tupK (K := K)) (pv 2) pe_int (fun _ _ => rfl)) pa_nil)) (pa_cons pe_non pa_nil)))) (pg_tupK (K := K) (n := 3) rfl (pgs_cons (pg_sub (pv 4) pe_str (set_dict (hu_of hr))) (pgs_cons (pg_sub (pv 4) pe_str (set_dict (hu_of hr))) (pgs_cons (pg_sub (pv 4) pe_str (set_dict (hu_of hr))) pgs_nil)))))))
      (pss_one (ps_ret pe_bl))) pss_nil)))
      (pss_one (ps_ret pe_bl))))), ?_⟩)
  · obtain ⟨a, b, rfl, _⟩ := h
    rfl
  · obtain ⟨x, y, rfl, a, hl, C, As, X, rfl, rfl, hC, hv, hvl, xr, xc, kn, q⟩ := h
    obtain ⟨va, ca, ba, as, hC⟩ := hC
    have v1 := hv.1
    have v5 := hv.2.1
    have kn := (kn.imp (CodeAt.mo a C va ca ba as) fun _ => hC)
    walk_at "wp"
    refine w_lcL kn (SqL.of (kn.l 0 rfl)) (fun D i H' => ∃ (ts : List Addr) (ps : List (Addr × Addr)), ps.length = i ∧ Kn H (hl :: (hObsU As X).map (·.1)) [] H' ((hl, .lst (dRefs As)) :: (D, .lst (ts.map V.ref)) :: (cObs X ps ++ hObsU As X)) [] (fun H => CodeAt H a C va ca ba as ∧ At H ts (ps.map fun p : Addr × Addr => [V.ref p.1, V.ref p.2])))
      (fun D H' kn => ⟨[], [], rfl, ((kn.pmn 2 [1, 0] (by decide) (by decide)).and (S := fun H => At H [] []) (At.mo _ _) .nil)⟩) (fun D i H' _ hp => ?_) (fun D i x H' hx hi hp => ?_) (fun D H' hp => ?_)
    · obtain ⟨_, _, _, kn⟩ := hp
      exact SqL.of (kn.l 0 rfl)
    · obtain ⟨ts, ps, lp, kn⟩ := hp
      obtain ⟨A, _, hm, rfl⟩ := ha_get hx
      rw [List.length_map] at hi
      have lts : ts.length = ps.length := by
        have := kn.pp.2.len
        simpa using this
      have hmem : ∀ q ∈ hTri A X, q ∈ cObs X ps ++ hObsU As X := fun q hq => List.mem_append_right _ (hObsU_mem hm q hq)
      have hd : H' A.d = some (oHue A X.slot) := kn.ats (A.d, _) (List.mem_cons_of_mem _ (List.mem_cons_of_mem _ (hmem _ (by unfold hTri; exact List.mem_cons_self))))
      have hrr : H' A.r = some (.lst (X.regs.map V.int)) := kn.ats (A.r, _) (List.mem_cons_of_mem _ (List.mem_cons_of_mem _ (hmem (A.r, _) (by unfold hTri; exact List.mem_cons_of_mem _ List.mem_cons_self))))
      walk_at "wp"
      refine w_lstOf kn (.inl (SqL.of hrr)) fun r1 H2 kn => ?_
      have hd : H2 A.d = some (oHue A X.slot) := kn.ats (A.d, _) (List.mem_cons_of_mem _ (List.mem_cons_of_mem _ (List.mem_cons_of_mem _ (hmem _ (by unfold hTri; exact List.mem_cons_self)))))
      have hcc : H2 A.c = some (.lst (X.cells.map V.int)) := kn.ats (A.c, _) (List.mem_cons_of_mem _ (List.mem_cons_of_mem _ (List.mem_cons_of_mem _ (hmem (A.c, _) (by unfold hTri; exact List.mem_cons_of_mem _ (List.mem_cons_of_mem _ List.mem_cons_self))))))
      walk_at "wp"
      refine w_lstOf kn (.inl (SqL.of hcc)) fun c1 H3 kn => ?_
      walk_at "wp"
      refine w_kTup kn rfl fun t H4 kn => ?_
      refine w_kAcc kn 3 rfl (by rw [List.length_map]; omega) fun H5 kn => ?_
      walk_at "pm"
      have ht := kn.t 0 rfl
      have kn := kn.pmn 4 [2, 3, 1, 0] (by decide) (by decide)
      walk_at "pm"
      refine ⟨ts ++ [t], ps ++ [(r1, c1)], by rw [List.length_append, lp] <;> rfl, ?_⟩
      have kn := (kn.imp (S := fun H => CodeAt H a C va ca ba as ∧ At H (ts ++ [t]) ((ps ++ [(r1, c1)]).map fun p : Addr × Addr => [V.ref p.1, V.ref p.2])) (fun _ _ t h => ⟨h.1.mono t, h.2.mono t⟩) fun h => ⟨h.1, by
        rw [List.map_append]
        exact h.2.app (.one ht)⟩).noT
      rw [List.map_append (f := V.ref), cObs_snoc, List.append_assoc]
      exact kn.perm (((List.perm_append_comm_assoc [(r1, HO.lst (X.regs.map V.int)), (c1, HO.lst (X.cells.map V.int))] (cObs X ps) (hObsU As X)).cons _).cons _)
    · obtain ⟨ts, ps, lp, kn⟩ := hp
      rw [List.length_map] at lp
      have lts : ts.length = ps.length := by
        have := kn.pp.2.len
        simpa using this
      walk_at "wp"
      refine w_forL (SqL.of (kn.l 1 rfl)) (fun i σ' H' => i = 0 ∧ ∃ a2, σ' = [some (.ref a), some (.ref hl), a2, some (.ref D), none] ∧ Kn H (hl :: (hObsU As X).map (·.1)) [] H' ((hl, .lst (dRefs As)) :: (D, .lst (ts.map V.ref)) :: (cObs X ps ++ hObsU As X)) [] (fun H => CodeAt H a C va ca ba as ∧ At H ts (ps.map fun p : Addr × Addr => [V.ref p.1, V.ref p.2])))
        ⟨rfl, none, rfl, kn⟩ (fun i σ' H' _ hp => ?_) (fun i x σ' H' hx hi hp => ?_) (fun σ' H' hp => ?_)
      · obtain ⟨_, _, _, kn⟩ := hp
        exact SqL.of (kn.l 1 rfl)
      · obtain ⟨rfl, a2, rfl, kn⟩ := hp
        obtain ⟨t, et, rfl⟩ := At.refs hx
        obtain ⟨its, e1, ht⟩ := kn.pp.2.get' et
        rw [List.getElem?_map] at e1
        obtain ⟨p, ep, rfl⟩ := Option.map_eq_some_iff.mp e1
        have pm := cObs_mem (X := X) (List.mem_of_getElem? ep)
        have all : ∀ {H' : Hp}, (∀ q ∈ cObs X ps, H' q.1 = some q.2) → ∀ p ∈ ps, H' p.1 = some (.lst (X.regs.map V.int)) ∧ H' p.2 = some (.lst (X.cells.map V.int)) := fun {H'} h p hp =>
          ⟨h _ (cObs_mem (X := X) hp).1, h _ (cObs_mem (X := X) hp).2⟩
        have al := all fun q hq => kn.ats q (List.mem_cons_of_mem _ (List.mem_cons_of_mem _ (List.mem_append_left _ hq)))
        have hC2 := kn.pp.1
        have kn := kn.tps (T' := [(t, [.ref p.1, .ref p.2]), (a, [.ref va, .int C.size, .ref ca, .ref ba]), (va, C.votes.map V.int)]) (fun q hq => by
          simp only [List.mem_cons, List.not_mem_nil, or_false] at hq
          rcases hq with e | e | e <;> rw [e]
          · exact ht
          · exact hC2.top
          · exact hC2.vt)
        have hlt : C.votes.length - 1 < C.votes.length := by omega
        have hb := hv.2.2 _ _ (List.getElem?_eq_getElem hlt)
        have elast : atI (C.votes.map V.int) (-1) = some (.int C.votes[C.votes.length - 1]) := by
          have hne : C.votes.map V.int ≠ [] := fun z => by
            have : C.votes.length = 0 := by simpa using congrArg List.length z
            omega
          rw [← List.dropLast_concat_getLast hne, atI_last, List.getLast_eq_getElem]
          simp
        walk_at "wp"
        refine ⟨D, _, _, ps.length, stD X, rfl, rfl, SqL.of (kn.l 1 rfl), st_dps kn.pp.2 al, st_dp ht (al p (List.mem_of_getElem? ep)).1 (al p (List.mem_of_getElem? ep)).2, ⟨(stD_nd X).1, Nat.le_trans (stD_nd X).2 (by decide)⟩, stD_plain X, ?_⟩
        walk_at "wp"
        refine w_ixT (SqT.of (kn.t 2 rfl)) elast ?_
        walk_at "wp"
        refine kIf_d (fun _ => ?_) fun e => absurd (show C.votes[C.votes.length - 1] ≤ (ps.length : Int) by omega) e
        walk_at "wp"
        refine w_forL (SqL.of (kn.l 0 rfl)) (fun i σ' H' => ∃ (As1 : List HA) (a4 : Option V), σ' = [some (.ref a), some (.ref hl), some (.ref t), some (.ref D), a4] ∧ As1.length = i ∧ As1.map (fun A => A.d) = (As.take i).map (fun A => A.d) ∧
            Kn H (hl :: (hObsU As X).map (·.1)) [] H' ((hl, .lst (dRefs As)) :: (D, .lst (ts.map V.ref)) :: (cObs X ps ++ (hObsU As1 ⟨X.regs, X.cells, none⟩ ++ hObsU (As.drop i) X))) [(t, [.ref p.1, .ref p.2])] (fun _ => True))
          ⟨[], none, rfl, rfl, rfl, (kn.imp mono_true fun _ => trivial).tps fun q hq => by
            have e : q = (t, [V.ref p.1, .ref p.2]) := by simpa using hq
            rw [e]
            exact kn.t 0 rfl⟩ (fun i σ' H' _ hp => ?_) (fun i x σ' H' hx hi hp => ?_) (fun σ' H' hp => ?_)
        · obtain ⟨_, _, _, _, _, kn⟩ := hp
          exact SqL.of (kn.l 0 rfl)
        · obtain ⟨As1, a4, rfl, l1, hd1, kn⟩ := hp
          obtain ⟨A, eA, hm, rfl⟩ := ha_get hx
          rw [List.length_map] at hi
          have hdr : As.drop i = A :: As.drop (i + 1) := by
            rw [List.drop_eq_getElem_cons hi]
            rw [(List.getElem?_eq_some_iff.mp eA).2]
          rw [hdr, hObsU_cons] at kn
          have kn := kn.perm (L' := (A.d, oHue A X.slot) :: (A.r, .lst (X.regs.map V.int)) :: (A.c, .lst (X.cells.map V.int)) :: (hl, .lst (dRefs As)) :: (D, .lst (ts.map V.ref)) :: (cObs X ps ++ (hObsU As1 ⟨X.regs, X.cells, none⟩ ++ hObsU (As.drop (i + 1)) X))) (perm_tri [(hl, .lst (dRefs As)), (D, .lst (ts.map V.ref))] (cObs X ps) (hObsU As1 ⟨X.regs, X.cells, none⟩) (hObsU (As.drop (i + 1)) X) (A := A) (X := X))
          have h1 : H' p.1 = some (.lst (X.regs.map V.int)) := kn.ats (p.1, _) (List.mem_cons_of_mem _ (List.mem_cons_of_mem _ (List.mem_cons_of_mem _ (List.mem_cons_of_mem _ (List.mem_cons_of_mem _ (List.mem_append_left _ pm.1))))))
          walk_at "wp"
          refine w_lstOf kn (.inl (SqL.of h1)) fun r1 H2 kn => ?_
          have h2 : H2 p.2 = some (.lst (X.cells.map V.int)) := kn.ats (p.2, _) (List.mem_cons_of_mem _ (List.mem_cons_of_mem _ (List.mem_cons_of_mem _ (List.mem_cons_of_mem _ (List.mem_cons_of_mem _ (List.mem_cons_of_mem _ (List.mem_append_left _ pm.2)))))))
          walk_at "wp"
          refine w_lstOf kn (.inl (SqL.of h2)) fun c1 H3 kn => ?_
          walk_at "wp"
          refine w_kTup kn rfl fun o H4 kn => ?_
          walk_at "wp"
          refine w_kPut kn 2 rfl nd_h rfl 0 rfl rfl fun H5 kn => ?_
          walk_at "pm"
          walk_at "wp"
          refine w_kPut kn 2 rfl nd_h rfl 1 rfl rfl fun H6 kn => ?_
          walk_at "pm"
          walk_at "wp"
          refine w_kPut kn 2 rfl nd_h rfl 2 rfl rfl fun H7 kn => ?_
          walk_at "pm"
          have kn := kn.pmn 7 [2, 1, 0, 5, 6] (by decide) (by decide)
          walk_at "pm"
          walk_at "wp"
          refine ⟨As1 ++ [⟨A.d, r1, c1⟩], _, rfl, by rw [List.length_append, l1] <;> rfl, by rw [take_map _ eA, List.map_append, hd1] <;> rfl, ?_⟩
          have kn := kn.tps (T' := [(t, [.ref p.1, .ref p.2])]) (fun q hq => by
            have e : q = (t, [V.ref p.1, .ref p.2]) := by simpa using hq
            rw [e]
            exact kn.t 1 rfl)
          have kn := kn.perm (perm_tri [(hl, .lst (dRefs As)), (D, .lst (ts.map V.ref))] (cObs X ps) (hObsU As1 ⟨X.regs, X.cells, none⟩) (hObsU (As.drop (i + 1)) X) (A := ⟨A.d, r1, c1⟩) (X := ⟨X.regs, X.cells, none⟩)).symm
          rw [hObsU_snoc, List.append_assoc]
          exact kn
        · obtain ⟨As1, a4, rfl, l1, hd1, kn⟩ := hp
          rw [List.length_map] at hd1 kn
          rw [List.take_length] at hd1
          rw [List.drop_length] at kn
          walk_at "wp"
          have e1 : dRefs As = dRefs As1 := by
            have := congrArg (fun l : List Addr => l.map V.ref) hd1
            simp only [List.map_map] at this
            exact this.symm
          rw [e1] at kn
          refine q As1 _ hd1 ?_
          have kn : Kn H (hl :: (hObsU As X).map (·.1)) [] H' ((hl, .lst (dRefs As1)) :: (D, .lst (ts.map V.ref)) :: (cObs X ps ++ (hObsU As1 ⟨X.regs, X.cells, none⟩ ++ []))) [(t, [.ref p.1, .ref p.2])] (fun _ => True) := kn
          rw [List.append_nil] at kn
          refine (kn.obs ?_ fun q hq => ?_).noT
          · have nd := kn.nd
            refine nd.sublist ?_
            refine List.Sublist.map _ ?_
            exact .cons_cons _ (.cons _ (List.sublist_append_right _ _))
          · rcases List.mem_cons.mp hq with e | hq
            · rw [e]
              exact List.mem_cons_self
            · exact List.mem_cons_of_mem _ (List.mem_cons_of_mem _ (List.mem_append_right _ hq))
      · obtain ⟨e, _⟩ := hp
        rw [List.length_map] at e
        omega
end
end Hue
set_option Elab.async false
set_option linter.all false
set_option maxRecDepth 100000
set_option maxHeartbeats 4000000
set_option autoImplicit false
namespace Hue
open PySem PySem.Spec PyProof.Rows L2

/-! ### the world -/
inductive Row where
  | show_ (p v : Int)
  | take_ (v : Int)
  | stop_
def Row.its : Row → List V
  | .show_ p v => [.str "show", .int p, .int v]
  | .take_ v => [.str "take", .int v]
  | .stop_ => [.str "stop"]
structure WA where
  wd : Addr
  hl : Addr
  rw : Addr
  wn : Addr
  lf : Addr
  sn : Addr
structure MS where
  row : List Row
  left : List Int
  at_ : Int
  state : Str
  steps : Int
  even : Bool
def wK : List Str := [("hues" : Str), ("row" : Str), ("when" : Str), ("left" : Str), ("at" : Str), ("state" : Str), ("steps" : Str), ("own" : Str), ("settles" : Str), ("even" : Str), ("seen" : Str)]
theorem nd_w : wK.Nodup := by decide +kernel
/-- what nobody asks for: own, settles, when, seen, the rows' addresses -/
structure XS where
  own : Int
  settles : Int
  whens : List Int
  seen : List Addr
  rs : List Addr
abbrev oWorld (W : WA) (S : MS) (E : XS) : HO := .dK (zipK wK [.ref W.hl, .ref W.rw, .ref W.wn, .ref W.lf, .int S.at_, .str S.state, .int S.steps, .int E.own, .int E.settles, .bl S.even, .ref W.sn])
def wObs (W : WA) (As : List HA) (S : MS) (E : XS) (hs : Obs) : Obs := (W.wd, oWorld W S E) :: (W.hl, .lst (dRefs As)) :: (W.rw, .lst (E.rs.map V.ref)) :: (W.wn, .lst (E.whens.map V.int)) :: (W.lf, .lst (S.left.map V.int)) :: (W.sn, .lst (E.seen.map V.ref)) :: hs
def settleU (m : Int) (c : Cell) (X : HueV) (S : MS) : HueV × MS × Bool := match c with
  | .shw p _ => match X.slot with
    | none => (X, { S with even := false }, false)
    | some v => (⟨X.regs, X.cells, none⟩, { S with row := S.row ++ [.show_ p v] }, true)
  | .turn g _ => match X.slot with
    | none => (X, { S with even := false }, false)
    | some v => (⟨X.regs, X.cells, none⟩, { S with at_ := if v ≠ 0 then g else S.at_ }, true)
  | .mark => (⟨X.regs, X.cells, none⟩, S, true)
  | .take b _ => (⟨X.regs.set b.toNat (S.left.headD 0 % m), X.cells, X.slot⟩, { S with left := S.left.tail, row := S.row ++ [.take_ (S.left.headD 0 % m)] }, true)
  | .goto g => (X, { S with at_ := g }, true)
  | .stop => (X, { S with row := S.row ++ [.stop_], state := "stop" }, true)
  | .ins _ _ => (X, S, true)
/-- the width that settles of a run have -/
def Cell.wide_ (n : Int) : Cell → Prop
  | .shw _ w => w = n
  | .turn _ w => w = n
  | .take b w => w = n ∧ Reg b
  | .ins _ _ => False
  | _ => True
def rSettled : V → V → V → Hp → VK → XK → Prop := fun x y z H Q _ => ∃ (a cl : Addr) (C : Code) (W : WA) (As : List HA) (X : HueV) (S : MS) (E : XS) (c : Cell) (M : List Addr) (nb : Nat), x = .ref a ∧ y = .ref W.wd ∧ z = .ref cl ∧ IsCode H a C ∧ VotesOk C.votes ∧ 2 ≤ C.size ∧ C.votes.length = As.length ∧ X.Ok C.size nb ∧ nb ≤ 600 ∧
  H cl = some (.tup c.its) ∧ c.wide_ As.length ∧ S.even = true ∧ S.row.length ≤ 10000 ∧ E.seen.length ≤ 10000 ∧ S.left.length ≤ 1000 ∧ M = (wObs W As S E (hObsU As X)).map (·.1) ∧ Kn H M [] H (wObs W As S E (hObsU As X)) [] (fun H => At H E.rs (S.row.map Row.its)) ∧
  ∀ (As' : List HA) (E' : XS) H', As'.length = As.length → E'.own = E.own → E'.settles = E.settles → E'.whens = E.whens → E'.seen.length ≤ E.seen.length + 1 →
    Kn H M [] H' (wObs W As' (settleU C.size c X S).2.1 E' (hObsU As' (settleU C.size c X S).1)) [] (fun H => At H E'.rs ((settleU C.size c X S).2.1.row.map Row.its)) → Q (.bl (settleU C.size c X S).2.2) H'
section
variable {H0 H : Hp} {M : List Addr} {R L pre a b : Obs} {T : Tps} {P : Hp → Prop} {A : HA} {X : HueV} {As : List HA} {K : PySem.W.Frag} {n : L2.St → Hp → Prop} {r : VK} {bk ct : L2.St → Hp → Prop}
theorem Kn.foc (kn : Kn H0 M R H (pre ++ (a ++ (hTri A X ++ b))) T P) : Kn H0 M R H ((A.d, oHue A X.slot) :: (A.r, .lst (X.regs.map V.int)) :: (A.c, .lst (X.cells.map V.int)) :: (pre ++ (a ++ b))) T P :=
  kn.perm (perm_tri pre [] a b)
theorem Kn.unfoc (kn : Kn H0 M R H ((A.d, oHue A X.slot) :: (A.r, .lst (X.regs.map V.int)) :: (A.c, .lst (X.cells.map V.int)) :: (pre ++ (a ++ b))) T P) : Kn H0 M R H (pre ++ (a ++ (hTri A X ++ b))) T P :=
  kn.perm (perm_tri pre [] a b (A := A) (X := X)).symm
theorem w_clear {la : Addr} {a0 a1 a2 a3 a4 a5 a6 a7 a8 : Option V} (kn : Kn H0 M R H (pre ++ hObsU As X) T P) (hl : (la, HO.lst (dRefs As)) ∈ pre) (h : ∀ a5 H', Kn H0 M R H' (pre ++ hObsU As ⟨X.regs, X.cells, none⟩) T P → n [a0, a1, a2, a3, a4, a5, a6, a7, a8] H') :
    kIL K (.ref la) H fun J H1 => kFor J H1 (gName 5) (sDPut (tVar 5) (tC (.str "slot")) (tC .non)) ⟨n, r, bk, ct⟩ [a0, a1, a2, a3, a4, a5, a6, a7, a8] := by
  refine w_forL (SqL.of (kn.ats _ (List.mem_append_left _ hl))) (fun i σ' H' => ∃ a5, σ' = [a0, a1, a2, a3, a4, a5, a6, a7, a8] ∧ Kn H0 M R H' (pre ++ (hObsU (As.take i) ⟨X.regs, X.cells, none⟩ ++ hObsU (As.drop i) X)) T P) ⟨a5, rfl, kn⟩ (fun i σ' H' _ hp => ?_) (fun i x σ' H' hx hi hp => ?_) (fun σ' H' hp => ?_)
  · obtain ⟨_, _, kn⟩ := hp
    exact SqL.of (kn.ats _ (List.mem_append_left _ hl))
  · obtain ⟨a5, rfl, kn⟩ := hp
    obtain ⟨A, eA, hm, rfl⟩ := ha_get hx
    rw [List.length_map] at hi
    have hdr : As.drop i = A :: As.drop (i + 1) := by
      rw [List.drop_eq_getElem_cons hi]
      rw [(List.getElem?_eq_some_iff.mp eA).2]
    rw [hdr, hObsU_cons] at kn
    have kn := kn.foc
    refine w_gName ?_
    refine w_tput ?_
    refine w_c ?_
    refine w_var rfl ?_
    refine w_c ?_
    refine w_kPut kn 0 rfl nd_h rfl 2 rfl rfl fun H5 kn => ?_
    refine ⟨_, rfl, ?_⟩
    have kn := (show Kn H0 M R H5 ((A.d, oHue A none) :: (A.r, .lst (X.regs.map V.int)) :: (A.c, .lst (X.cells.map V.int)) :: (pre ++ (hObsU (As.take i) ⟨X.regs, X.cells, none⟩ ++ hObsU (As.drop (i + 1)) X))) T P from kn)
    have kn := Kn.unfoc (A := A) (X := ⟨X.regs, X.cells, none⟩) kn
    have et : As.take (i + 1) = As.take i ++ [A] := by
      rw [List.take_add_one, eA] <;> rfl
    rw [et, hObsU_snoc, List.append_assoc]
    exact kn
  · obtain ⟨a5, rfl, kn⟩ := hp
    rw [List.length_map, List.take_length, List.drop_length] at kn
    have e : hObsU [] X = [] := rfl
    rw [e, List.append_nil] at kn
    exact h _ _ kn
theorem w_lanes {la cl : Addr} {its : List V} {b v : Int} {a0 a1 a3 a4 a5 a6 a8 : Option V} (kn : Kn H0 M R H (pre ++ hObsU As X) ((cl, its) :: T) P) (hl : (la, HO.lst (dRefs As)) ∈ pre) (hb : atI its 1 = some (.int b)) (hr : Reg b) (h8 : X.regs.length = 8)
    (h : ∀ a5 a8 H', Kn H0 M R H' (pre ++ hObsU As ⟨X.regs.set b.toNat v, X.cells, X.slot⟩) ((cl, its) :: T) P → n [a0, a1, some (.ref cl), a3, a4, a5, a6, some (.int v), a8] H') :
    kIL K (.ref la) H fun J H1 => kFor J H1 (gName 5) (tSeq (tAsg (tDGet (tVar 5) (tC (.str "registers"))) (gName 8)) (tAsg (tVar 7) (gSub (tVar 8) (tOp (rIxT K) (tVar 2) (tC (.int 1))) rSetL))) ⟨n, r, bk, ct⟩ [a0, a1, some (.ref cl), a3, a4, a5, a6, some (.int v), a8] := by
  refine w_forL (SqL.of (kn.ats _ (List.mem_append_left _ hl))) (fun i σ' H' => ∃ a5 a8, σ' = [a0, a1, some (.ref cl), a3, a4, a5, a6, some (.int v), a8] ∧ Kn H0 M R H' (pre ++ (hObsU (As.take i) ⟨X.regs.set b.toNat v, X.cells, X.slot⟩ ++ hObsU (As.drop i) X)) ((cl, its) :: T) P) ⟨a5, a8, rfl, kn⟩ (fun i σ' H' _ hp => ?_) (fun i x σ' H' hx hi hp => ?_) (fun σ' H' hp => ?_)
  · obtain ⟨_, _, _, kn⟩ := hp
    exact SqL.of (kn.ats _ (List.mem_append_left _ hl))
  · obtain ⟨a5, a8, rfl, kn⟩ := hp
    obtain ⟨A, eA, hm, rfl⟩ := ha_get hx
    rw [List.length_map] at hi
    have hdr : As.drop i = A :: As.drop (i + 1) := by
      rw [List.drop_eq_getElem_cons hi]
      rw [(List.getElem?_eq_some_iff.mp eA).2]
    rw [hdr, hObsU_cons] at kn
    have kn := kn.foc
    have hj : ixN (X.regs.map V.int).length b = some b.toNat := by
      have := ixN_n (n := (X.regs.map V.int).length) (j := b.toNat) (by rw [List.length_map]; have := hr.1; have := hr.2; omega)
      have e : ((b.toNat : Nat) : Int) = b := by have := hr.1; omega
      rw [e] at this
      exact this
    refine w_gName ?_
    refine w_seq ?_
    refine w_asg ?_
    refine w_tget ?_
    refine w_var rfl ?_
    refine w_c ?_
    refine w_kGet1 (kn.l 0 rfl) ?_
    refine w_ix 0 nd_h rfl rfl ?_
    refine w_asgG ?_
    refine w_var rfl ?_
    refine w_gSub ?_
    refine w_var rfl ?_
    refine w_op ?_
    refine w_var rfl ?_
    refine w_c ?_
    refine w_ixT (SqT.of (kn.t 0 rfl)) hb ?_
    refine w_setL kn 1 rfl hj fun H5 kn => ?_
    refine ⟨_, _, rfl, ?_⟩
    have kn := (show Kn H0 M R H5 ((A.d, oHue A X.slot) :: (A.r, .lst ((X.regs.map V.int).set b.toNat (.int v))) :: (A.c, .lst (X.cells.map V.int)) :: (pre ++ (hObsU (As.take i) ⟨X.regs.set b.toNat v, X.cells, X.slot⟩ ++ hObsU (As.drop (i + 1)) X))) ((cl, its) :: T) P from kn)
    rw [set_int] at kn
    have kn := Kn.unfoc (A := A) (X := ⟨X.regs.set b.toNat v, X.cells, X.slot⟩) kn
    have et : As.take (i + 1) = As.take i ++ [A] := by
      rw [List.take_add_one, eA] <;> rfl
    rw [et, hObsU_snoc, List.append_assoc]
    exact kn
  · obtain ⟨a5, a8, rfl, kn⟩ := hp
    rw [List.length_map, List.take_length, List.drop_length] at kn
    have e : hObsU [] X = [] := rfl
    rw [e, List.append_nil] at kn
    exact h _ _ _ kn
end
end Hue
set_option Elab.async false
set_option linter.all false
set_option maxRecDepth 100000
set_option maxHeartbeats 4000000
set_option autoImplicit false
namespace Hue
open PySem PySem.Spec PyProof.Rows L2
def N_law_weave_settled : List Str := [("_law_code" : Str), ("_law_world" : Str), ("_law_cell" : Str), ("_law_hues_here" : Str), ("_law_word" : Str), ("_law_one" : Str), ("_law_agreed" : Str), ("_law_number_here" : Str), ("_law_lane" : Str)]
theorem sc_law_weave_settled : FnScope N_law_weave_settled [("_law_code" : Str), ("_law_world" : Str), ("_law_cell" : Str)] (defScope s_law_weave_settled) := ⟨rfl, rfl, rfl, by decide +kernel, rfl, by decide +kernel, by decide +kernel⟩
theorem Kn.hs {H0 H : Hp} {M : List Addr} {R pre : Obs} {T : Tps} {P : Hp → Prop} {As : List HA} {X : HueV} (kn : Kn H0 M R H (pre ++ hObsU As X) T P) : HsAt H As X := fun A hA q hq => kn.ats q (List.mem_append_right _ (hObsU_mem hA q hq))
theorem perm_mk (x1 x2 x3 x4 x5 x6 : Addr × HO) (hs : Obs) : (x1 :: x2 :: x3 :: x4 :: x5 :: x6 :: hs).Perm ((x2 :: hs) ++ [x1, x3, x4, x5, x6]) := by
  refine (List.Perm.swap x2 x1 _).trans ?_
  exact (List.perm_append_comm (l₁ := [x1, x3, x4, x5, x6]) (l₂ := hs)).cons x2
theorem row_app {H : Hp} {rs : List Addr} {row : List Row} {t : Addr} {r : Row} (h : At H rs (row.map Row.its)) (ht : H t = some (.tup r.its)) : At H (rs ++ [t]) ((row ++ [r]).map Row.its) := by
  rw [List.map_append]
  exact h.app (.one ht)
section
variable {P : Program} {w : World} {K : PySem.W.Frag} {mg : Str → Option Value} {base : Heap}
theorem ok_law_weave_settled (D : DefAt K mg "_law_weave_settled" s_law_weave_settled) (T : Txt K mg) (C_law_weave_agreed : Cal P w K mg base CX0 1 "_law_weave_agreed" [("_law_code" : Str), ("_law_hues_here" : Str), ("_law_width" : Str)] (Sp3 rAgreed))
    (C_law_weave_even : Cal P w K mg base CX0 1 "_law_weave_even" [("_law_hues_here" : Str), ("_law_cell" : Str)] (Sp2 rEven)) (C_law_weave_marked : Cal P w K mg base CX0 1 "_law_weave_marked" [("_law_code" : Str), ("_law_hues_here" : Str)] (Sp2 rMarked)) :
    Cal P w K mg base CX0 2 "_law_weave_settled" [("_law_code" : Str), ("_law_world" : Str), ("_law_cell" : Str)] (Sp3 rSettled) := by
  refine cal_of D sc_law_weave_settled (fun _ _ _ _ _ _ us hl => match us, hl with | [_, _, _], _ => rfl) (fun vs H Q E h => ?_) (fun f cdv A outer s H vs Q E hr h => ⟨_, PSs.nox ((pss_cons (ps_par (i := 3) (j := 4) (by rfl) sc_law_weave_settled.nd rfl rfl (by decide) rfl rfl (pa_cons (pe_dget (hu_of hr) (pv 1) pe_str (fun _ _ => rfl)) (pa_cons (pe_ix (ix_tupK (K := K)) (pv 2) pe_int (fun _ _ => rfl)) pa_nil)) (by rfl))
      (pss_cons (ps_if (pt_cmpR (op_inK (K := K)) (pv 4) (pe_lst (pa_cons pe_str (pa_cons pe_str (pa_cons pe_str pa_nil)))) (by rfl)) (pss_cons (ps_dput (hu_of hr) (pv 1) pe_str (pe_and (pe_dget (hu_of hr) (pv 1) pe_str (fun _ _ => rfl)) (pe_one (pe_cl C_law_weave_even hr (by decide) pass0 rfl (pa_cons (pv 3) (pa_cons (pv 2) pa_nil))))) rfl)
      (pss_cons (ps_expr (pe_bmK (K := K) PySem.F.plainAttrs_list PySem.F.slot_list_append PySem.F.type_list_append mt_append (pe_dget (hu_of hr) (pv 1) pe_str (fun _ _ => rfl)) (pa_cons (pe_ifExp (pt_cmpR op_ne (pv 4) pe_str (nomark _)) (pe_lc (own := [("_law_one", 5)]) rfl sc_law_weave_settled.nd (pi_listK (K := K) (pv 3)) (blkOk_by (own := [("_law_one", 5)]) (N := N_law_weave_settled) (sc := defScope s_law_weave_settled) (by decide +kernel)) (fun _ _ _ _ _ => (pg_name (i := 5) sc_law_weave_settled.nd rfl (by first | exact Or.inl rfl | exact Or.inr rfl))) (fun _ _ _ _ _ => pts_nil) (fun _ _ _ _ _ => by exact (pe_dget (hu_of hr) (pv 5) pe_str (fun _ _ => rfl)))) (pe_lst (pa_cons pe_str pa_nil))) pa_nil)))
      (pss_cons (ps_set (i := 6) sc_law_weave_settled.nd rfl (Or.inl rfl) (pe_ifExp (pt_cmpR op_ne (pv 4) pe_str (nomark _)) (pe_cl C_law_weave_agreed hr (by decide) pass0 rfl (pa_cons (pv 0) (pa_cons (pv 3) (pa_cons (pe_ix (ix_tupK (K := K)) (pv 2) pe_int (fun _ _ => rfl)) pa_nil)))) pe_int))
      (pss_cons (ps_if (PW.pt (pw_or (pt_cmpR op_isN1 (pv 6) pe_non (nomark _)) (pw_or1 (PW.pt (pw_and (pt_cmpR op_eq (pv 4) pe_str (nomark _)) (pw_and1 (pt_not (pt_val (pe_cl C_law_weave_marked hr (by decide) pass0 rfl (pa_cons (pv 0) (pa_cons (pv 3) pa_nil))))))))))) (pss_one (ps_ret pe_bl)) pss_nil)
      (pss_cons (ps_for PassesOwn.never rfl (pi_listK (K := K) (pv 3)) (pg_name (i := 5) sc_law_weave_settled.nd rfl (Or.inl rfl)) (pss_one (ps_dput (hu_of hr) (pv 5) pe_str pe_non rfl)))
      (pss_one (ps_if (pt_cmpR op_eq (pv 4) pe_str (nomark _)) (pss_one (ps_expr (pe_bmK (K := K) PySem.F.plainAttrs_list PySem.F.slot_list_append PySem.F.type_list_append mt_append (pe_dget (hu_of hr) (pv 1) pe_str (fun _ _ => rfl)) (pa_cons (pe_tup (pa_cons pe_str (pa_cons (pe_ix (ix_tupK (K := K)) (pv 2) pe_int (fun _ _ => rfl)) (pa_cons (pv 6) pa_nil)))) pa_nil)))) (pss_one (ps_if (PW.pt (pw_and (pt_cmpR op_eq (pv 4) pe_str (nomark _)) (pw_and1 (pt_cmpR op_ne (pv 6) pe_int (nomark _))))) (pss_one (ps_dput (hu_of hr) (pv 1) pe_str (pe_ix (ix_tupK (K := K)) (pv 2) pe_int (fun _ _ => rfl)) rfl)) pss_nil))))))))) (pss_one (ps_if (pt_cmpR op_eq (pv 4) pe_str (nomark _)) (pss_cons (ps_set (i := 7) sc_law_weave_settled.nd rfl (Or.inl rfl) (pe_ifExp (pt_cmpR (op_neDK (K := K) hr.units) (pe_dget (hu_of hr) (pv 1) pe_str (fun _ _ => rfl)) (pe_lst pa_nil) (nomark _)) (pe_op op_mod (pe_callTy cr_int (by rfl) T.b_int (by decide +kernel) (pa_cons (pe_bmK (K := K) PySem.F.plainAttrs_list PySem.F.slot_list_pop PySem.F.type_list_pop mt_popAt (pe_dget (hu_of hr) (pv 1) pe_str (fun _ _ => rfl)) (pa_cons pe_int pa_nil)) pa_nil)) (pe_ix (ix_tupK (K := K)) (pv 0) pe_int (fun _ _ => rfl))) pe_int))
      (pss_cons (ps_for PassesOwn.never rfl (pi_listK (K := K) (pe_slice (sl_listK (K := K)) (pv 3) po_none (po_some (pe_ix (ix_tupK (K := K)) (pv 2) pe_int (fun _ _ => rfl))))) (pg_name (i := 5) sc_law_weave_settled.nd rfl (Or.inl rfl)) (pss_cons (ps_set (i := 8) sc_law_weave_settled.nd rfl (Or.inl rfl) (pe_dget (hu_of hr) (pv 5) pe_str (fun _ _ => rfl)))
      (pss_one (ps_asg (pv 7) (pg_sub (pv 8) (pe_ix (ix_tupK (K := K)) (pv 2) pe_int (fun _ _ => rfl)) set_list)))))
      (pss_one (ps_expr (pe_bmK (K := K) PySem.F.plainAttrs_list PySem.F.slot_list_append PySem.F.type_list_append mt_append (pe_dget (hu_of hr) (pv 1) pe_str (fun _ _ => rfl)) (pa_cons (pe_tup (pa_cons pe_str (pa_cons (pv 7) pa_nil))) pa_nil)))))) (pss_one (ps_if (pt_cmpR op_eq (pv 4) pe_str (nomark _)) (pss_one (ps_dput (hu_of hr) (pv 1) pe_str (pe_ix (ix_tupK (K := K)) (pv 2) pe_int (fun _ _ => rfl)) rfl)) (pss_cons (ps_expr (pe_bmK (K := K) PySem.F.plainAttrs_list PySem.F.slot_list_append PySem.F.type_list_append mt_append (pe_dget (hu_of hr) (pv 1) pe_str (fun _ _ => rfl)) (pa_cons (pe_tup (pa_cons pe_str pa_nil)) pa_nil)))
      (pss_one (ps_dput (hu_of hr) (pv 1) pe_str pe_str rfl))))))))
      (pss_one (ps_ret pe_bl))))), ?_⟩)
  · obtain ⟨a, b, c, rfl, _⟩ := h
    rfl
  · obtain ⟨x, y, z, rfl, a, cl, C, W, As, X, S, EX, c, M, nb, rfl, rfl, rfl, hC, hv, hm, hvl, hX, hnb, hcl, hwd, hev, hrl, hsl, hll, _, kn, q⟩ := h
    obtain ⟨row, left, at_, state, steps, even⟩ := S
    have hev : even = true := hev
    subst hev
    obtain ⟨own, settles, whens, seen, rs⟩ := EX
    have hC0 := hC
    obtain ⟨va, ca, ba, as, hC⟩ := hC
    have v1 := hv.1
    have v5 := hv.2.1
    have kn := kn.and (CodeAt.mo a C va ca ba as) hC
    have lrs : rs.length = row.length := by
      have := kn.pp.1.len
      simpa using this
    have hsl : seen.length ≤ 10000 := hsl
    have hrl : row.length ≤ 10000 := hrl
    unfold wObs at kn q
    cases c with
    | ins _ _ => exact hwd.elim
    | goto g =>
      have kn := kn.tps (T' := [(cl, [.str "goto", .int g]), (a, [.ref va, .int C.size, .ref ca, .ref ba])]) (fun q hq => by
        simp only [List.mem_cons, List.not_mem_nil, or_false] at hq
        rcases hq with e | e <;> rw [e]
        · exact hcl
        · exact hC.top)
      walk_at "wp"
      refine w_kLst kn rfl fun o H1 kn => ?_
      walk_at "wp"
      refine w_in (k := false) (.inl (SqL.of (kn.l 0 rfl))) rfl rfl (by decide +kernel) ?_
      have kn := kn.drop
      walk_at "wp"
      refine w_kPut kn 0 rfl nd_w rfl 4 rfl rfl fun H2 kn => ?_
      walk_at "pm"
      walk_at "wp"
      exact q As ⟨own, settles, whens, seen, rs⟩ H2 rfl rfl rfl rfl (Nat.le_succ _) (kn.noT.imp (At.mo _ _) fun h => h.1)
    | stop =>
      have kn := kn.tps (T' := [(cl, [.str "stop"]), (a, [.ref va, .int C.size, .ref ca, .ref ba])]) (fun q hq => by
        simp only [List.mem_cons, List.not_mem_nil, or_false] at hq
        rcases hq with e | e <;> rw [e]
        · exact hcl
        · exact hC.top)
      walk_at "wp"
      refine w_kLst kn rfl fun o H1 kn => ?_
      walk_at "wp"
      refine w_in (k := false) (.inl (SqL.of (kn.l 0 rfl))) rfl rfl (by decide +kernel) ?_
      have kn := kn.drop
      walk_at "wp"
      refine w_kTup kn rfl fun t H2 kn => ?_
      walk_at "wp"
      refine w_append kn 2 rfl (by rw [List.length_map]; show rs.length ≤ 100000; omega) fun H3 kn => ?_
      walk_at "pm"
      walk_at "wp"
      refine w_kPut kn 0 rfl nd_w rfl 5 rfl rfl fun H4 kn => ?_
      walk_at "pm"
      walk_at "wp"
      have ht := kn.t 0 rfl
      have er : rs.map V.ref ++ [V.ref t] = (rs ++ [t]).map V.ref := by rw [List.map_append] <;> rfl
      rw [er] at kn
      exact q As ⟨own, settles, whens, seen, rs ++ [t]⟩ H4 rfl rfl rfl rfl (Nat.le_succ _) (kn.noT.imp (At.mo (rs ++ [t]) ((row ++ [Row.stop_]).map Row.its)) fun h => row_app h.1 ht)
    | take b wd =>
      obtain ⟨rfl, hb⟩ := hwd
      have kn := kn.tps (T' := [(cl, [.str "take", .int b, .int As.length]), (a, [.ref va, .int C.size, .ref ca, .ref ba])]) (fun q hq => by
        simp only [List.mem_cons, List.not_mem_nil, or_false] at hq
        rcases hq with e | e <;> rw [e]
        · exact hcl
        · exact hC.top)
      walk_at "wp"
      refine w_kLst kn rfl fun o H1 kn => ?_
      walk_at "wp"
      refine w_in (k := false) (.inl (SqL.of (kn.l 0 rfl))) rfl rfl (by decide +kernel) ?_
      have kn := kn.drop
      walk_at "wp"
      refine w_kLst kn rfl fun o H2 kn => ?_
      refine w_neE (SqL.of (kn.l 5 rfl)) (dpAll_ints left) (n := 0) (.map fun _ _ => .int) (by decide) (SqL.of (kn.l 0 rfl)) ?_
      have kn := kn.drop
      have fin : ∀ (v : Int) (l2 : List Int) (H3 : Hp) (TT : Tps), v = left.headD 0 % C.size → l2 = left.tail → Kn H M [] H3 ((W.wd, .dK (zipK wK [.ref W.hl, .ref W.rw, .ref W.wn, .ref W.lf, .int at_, .str state, .int steps, .int own, .int settles, .bl true, .ref W.sn])) :: (W.hl, .lst (dRefs As)) :: (W.rw, .lst (rs.map V.ref)) :: (W.wn, .lst (whens.map V.int)) :: (W.lf, .lst (l2.map V.int)) :: (W.sn, .lst (seen.map V.ref)) :: hObsU As X) ((cl, [.str "take", .int b, .int As.length]) :: TT) (fun H => At H rs (row.map Row.its) ∧ CodeAt H a C va ca ba as) →
          ∀ {tt : TS}, tt = tSeq (tFor (iList K (tSl (rSlL K) (tVar 3) tNoPart (tPart (tOp (rIxT K) (tVar 2) (tC (.int 2)))))) (gName 5) (tSeq (tAsg (tDGet (tVar 5) (tC (.str "registers"))) (gName 8)) (tAsg (tVar 7) (gSub (tVar 8) (tOp (rIxT K) (tVar 2) (tC (.int 1))) rSetL)))) (tDrop (tBM K "list" rAppend (tDGet (tVar 1) (tC (.str "row"))) (tCons (tTup (tCons (tC (.str "take")) (tCons (tVar 7) tNil))) tNil))) →
          tt ⟨fun σ' H' => tRet (tC (.bl true)) ⟨fun _ H' => Q .non H', Q, fun _ _ => False, fun _ _ => False⟩ σ' H', Q, fun _ _ => False, fun _ _ => False⟩ [some (.ref a), some (.ref W.wd), some (.ref cl), some (.ref W.hl), some (.str "take"), none, none, some (.int v), none] H3 := fun v l2 H3 TT ev el kn tt et => by
        subst et
        walk_at "wp"
        refine w_slL kn (SqL.of (kn.l 1 rfl)) fun l H4 kn => ?_
        rw [cut_all _ (by rw [List.length_map])] at kn
        walk_at "wp"
        refine w_lanes (pre := [_, _, _, _, _, _, _]) (X := X) (As := As) kn (by simp) rfl hb hX.r fun a5 a8 H5 kn => ?_
        walk_at "pm"
        have kn := kn.drop
        walk_at "wp"
        refine w_kTup kn rfl fun t H6 kn => ?_
        walk_at "wp"
        refine w_append kn 2 rfl (by rw [List.length_map]; omega) fun H7 kn => ?_
        walk_at "pm"
        walk_at "wp"
        have ht := kn.t 0 rfl
        have er : rs.map V.ref ++ [V.ref t] = (rs ++ [t]).map V.ref := by rw [List.map_append] <;> rfl
        rw [er] at kn
        subst ev el
        exact q As ⟨own, settles, whens, seen, rs ++ [t]⟩ H7 rfl rfl rfl rfl (Nat.le_succ _) (kn.noT.imp (At.mo (rs ++ [t]) ((row ++ [Row.take_ (left.headD 0 % C.size)]).map Row.its)) fun h => row_app h.1 ht)
      cases left with
      | nil =>
        have e0 : (0 : Int) = ([] : List Int).headD 0 % C.size := (Int.zero_emod _).symm
        refine w_kB (kIf_no rfl ?_)
        exact fin 0 [] _ _ e0 rfl kn rfl
      | cons z zs =>
        walk_at "wp"
        refine w_pop kn (i := 0) (m := 0) 4 rfl (by decide) (by decide) (seq0 (Nat.succ_pos _)) rfl fun H3 kn => ?_
        walk_at "pm"
        walk_at "wp"
        refine w_rI (by show (0 : Int) < C.size; omega) ?_
        exact fin (z % C.size) zs _ _ rfl rfl kn rfl
    | mark =>
      have kn := kn.tps (T' := [(cl, [.str "mark"]), (a, [.ref va, .int C.size, .ref ca, .ref ba])]) (fun q hq => by
        simp only [List.mem_cons, List.not_mem_nil, or_false] at hq
        rcases hq with e | e <;> rw [e]
        · exact hcl
        · exact hC.top)
      walk_at "wp"
      refine w_kLst kn rfl fun o H1 kn => ?_
      walk_at "wp"
      refine w_in (k := true) (.inl (SqL.of (kn.l 0 rfl))) rfl rfl (by decide +kernel) ?_
      have kn := kn.drop
      walk_at "wp"
      refine ⟨cl, W.hl, As, X, .mark, rfl, rfl, by omega, by omega, kn.l 1 rfl, kn.hs (pre := [_, _, _, _, _, _]), kn.t 0 rfl, .inl ⟨rfl, fun H2 s2 => ?_⟩⟩
      have kn := kn.same s2
      walk_at "wp"
      refine w_kPut kn 0 rfl nd_w rfl 9 rfl rfl fun H3 kn => ?_
      walk_at "pm"
      walk_at "wp"
      refine w_kLst kn rfl fun D H4 kn => ?_
      walk_at "wp"
      refine w_append kn 6 rfl (by rw [List.length_map]; show seen.length ≤ 100000; omega) fun H5 kn => ?_
      walk_at "pm"
      have kn := kn.drop
      have es : seen.map V.ref ++ [V.ref D] = (seen ++ [D]).map V.ref := by rw [List.map_append] <;> rfl
      rw [es] at kn
      have ls : (seen ++ [D]).length ≤ seen.length + 1 := by rw [List.length_append] <;> exact Nat.le_refl _
      walk_at "wp"
      have kn0 := kn.perm (perm_mk _ _ _ _ _ _ _)
      have knA := (kn0.anew.imp (S := fun _ => True) mono_true fun _ => trivial).noT
      refine ⟨a, W.hl, C, As, X, rfl, rfl, ⟨va, ca, ba, as, kn.pp.2⟩, hv, hvl, by rw [hX.r]; decide, by rw [hX.c]; omega, knA, fun As' H6 hd' kn' => ?_⟩
      have kn2 := kn0.trans kn' (fun b hb => hb)
      have kn3 := kn2.perm (perm_mk (W.wd, .dK (zipK wK [.ref W.hl, .ref W.rw, .ref W.wn, .ref W.lf, .int at_, .str state, .int steps, .int own, .int settles, .bl true, .ref W.sn])) (W.hl, .lst (dRefs As')) (W.rw, .lst (rs.map V.ref)) (W.wn, .lst (whens.map V.int)) (W.lf, .lst (left.map V.int)) (W.sn, .lst ((seen ++ [D]).map V.ref)) (hObsU As' ⟨X.regs, X.cells, none⟩)).symm
      have kn := kn3.tps (T' := [(cl, [.str "mark"])]) (fun q hq => by
        have e : q = (cl, [V.str "mark"]) := by simpa using hq
        rw [e]
        exact kn3.fr.tup _ _ hcl)
      walk_at "wp"
      refine w_clear (pre := [_, _, _, _, _, _]) (X := ⟨X.regs, X.cells, none⟩) (As := As') kn (by simp) fun a5 H7 kn => ?_
      walk_at "pm"
      walk_at "wp"
      have lA : As'.length = As.length := by
        have := congrArg List.length hd'
        simpa using this
      exact q As' ⟨own, settles, whens, seen ++ [D], rs⟩ H7 lA rfl rfl rfl ls (kn.noT.imp (At.mo _ _) fun h => h.1.1)
    | shw p wd =>
      have hwd : wd = As.length := hwd
      subst hwd
      have kn := kn.tps (T' := [(cl, [.str "show", .int p, .int As.length]), (a, [.ref va, .int C.size, .ref ca, .ref ba])]) (fun q hq => by
        simp only [List.mem_cons, List.not_mem_nil, or_false] at hq
        rcases hq with e | e <;> rw [e]
        · exact hcl
        · exact hC.top)
      walk_at "wp"
      refine w_kLst kn rfl fun o H1 kn => ?_
      walk_at "wp"
      refine w_in (k := true) (.inl (SqL.of (kn.l 0 rfl))) rfl rfl (by decide +kernel) ?_
      have kn := kn.drop
      walk_at "wp"
      refine ⟨cl, W.hl, As, X, .shw p As.length, rfl, rfl, by omega, by omega, kn.l 1 rfl, kn.hs (pre := [_, _, _, _, _, _]), kn.t 0 rfl, .inr ⟨⟨p, .inl rfl⟩, fun H2 s2 => ?_⟩⟩
      have kn := kn.same s2
      walk_at "wp"
      refine w_kPut kn 0 rfl nd_w rfl 9 rfl rfl fun H3 kn => ?_
      walk_at "pm"
      walk_at "wp"
      refine w_lcL kn (SqL.of (kn.l 1 rfl)) (fun D i H' => ∃ xs : List V, xs.length = i ∧ Kn H M [] H' ((D, .lst xs) :: (W.wd, .dK (zipK wK [.ref W.hl, .ref W.rw, .ref W.wn, .ref W.lf, .int at_, .str state, .int steps, .int own, .int settles, .bl X.slot.isSome, .ref W.sn])) :: (W.hl, .lst (dRefs As)) :: (W.rw, .lst (rs.map V.ref)) :: (W.wn, .lst (whens.map V.int)) :: (W.lf, .lst (left.map V.int)) :: (W.sn, .lst (seen.map V.ref)) :: hObsU As X) [(cl, [.str "show", .int p, .int As.length]), (a, [.ref va, .int C.size, .ref ca, .ref ba])] (fun H => At H rs (row.map Row.its) ∧ CodeAt H a C va ca ba as))
        (fun D H' kn => ⟨[], rfl, kn⟩) (fun D i H' _ hp => ?_) (fun D i x H' hx hi hp => ?_) (fun D H' hp => ?_)
      · obtain ⟨_, _, kn⟩ := hp
        exact SqL.of (kn.l 2 rfl)
      · obtain ⟨xs, lx, kn⟩ := hp
        obtain ⟨A, _, hm, rfl⟩ := ha_get hx
        rw [List.length_map] at hi
        have hd := (kn.hs (pre := [_, _, _, _, _, _, _])).d hm
        walk_at "wp"
        refine w_kAcc kn 0 rfl (by omega) fun H4 kn => ?_
        exact ⟨xs ++ [slotV X.slot], by rw [List.length_append, lx] <;> rfl, kn⟩
      · obtain ⟨xs, lx, kn⟩ := hp
        walk_at "wp"
        refine w_append kn 6 rfl (by rw [List.length_map]; show seen.length ≤ 100000; omega) fun H4 kn => ?_
        walk_at "pm"
        have kn := kn.drop
        have es : seen.map V.ref ++ [V.ref D] = (seen ++ [D]).map V.ref := by rw [List.map_append] <;> rfl
        rw [es] at kn
        have ls : (seen ++ [D]).length ≤ seen.length + 1 := by rw [List.length_append] <;> exact Nat.le_refl _
        walk_at "wp"
        refine ⟨a, W.hl, C, As, X, rfl, rfl, rfl, ⟨va, ca, ba, as, kn.pp.2⟩, hv, hvl, kn.l 1 rfl, kn.hs (pre := [_, _, _, _, _, _]), fun H5 s5 => ?_⟩
        have kn := kn.same s5
        walk_at "wp"
        cases eX : X.slot with
        | none =>
          have eU : settleU C.size (.shw p As.length) X ⟨row, left, at_, state, steps, true⟩ = (X, ⟨row, left, at_, state, steps, false⟩, false) := by
            unfold settleU
            rw [eX]
          rw [eU] at q
          rw [eX] at kn
          walk_at "wp"
          exact q As ⟨own, settles, whens, seen ++ [D], rs⟩ H5 rfl rfl rfl rfl ls (kn.noT.imp (At.mo _ _) fun h => h.1)
        | some v =>
          have eU : settleU C.size (.shw p As.length) X ⟨row, left, at_, state, steps, true⟩ = (⟨X.regs, X.cells, none⟩, ⟨row ++ [.show_ p v], left, at_, state, steps, true⟩, true) := by
            unfold settleU
            rw [eX]
          rw [eU] at q
          rw [eX] at kn
          walk_at "wp"
          refine w_clear (pre := [_, _, _, _, _, _]) (X := X) (As := As) kn (by simp) fun a5 H6 kn => ?_
          walk_at "pm"
          walk_at "wp"
          refine w_kTup kn rfl fun t H7 kn => ?_
          walk_at "wp"
          refine w_append kn 2 rfl (by rw [List.length_map]; show rs.length ≤ 100000; omega) fun H8 kn => ?_
          walk_at "pm"
          walk_at "wp"
          have ht := kn.t 0 rfl
          have er : rs.map V.ref ++ [V.ref t] = (rs ++ [t]).map V.ref := by rw [List.map_append] <;> rfl
          rw [er] at kn
          exact q As ⟨own, settles, whens, seen ++ [D], rs ++ [t]⟩ H8 rfl rfl rfl rfl ls (kn.noT.imp (At.mo (rs ++ [t]) ((row ++ [Row.show_ p v]).map Row.its)) fun h => row_app (r := .show_ p v) h.1 ht)
    | turn g wd =>
      have hwd : wd = As.length := hwd
      subst hwd
      have kn := kn.tps (T' := [(cl, [.str "turn", .int g, .int As.length]), (a, [.ref va, .int C.size, .ref ca, .ref ba])]) (fun q hq => by
        simp only [List.mem_cons, List.not_mem_nil, or_false] at hq
        rcases hq with e | e <;> rw [e]
        · exact hcl
        · exact hC.top)
      walk_at "wp"
      refine w_kLst kn rfl fun o H1 kn => ?_
      walk_at "wp"
      refine w_in (k := true) (.inl (SqL.of (kn.l 0 rfl))) rfl rfl (by decide +kernel) ?_
      have kn := kn.drop
      walk_at "wp"
      refine ⟨cl, W.hl, As, X, .turn g As.length, rfl, rfl, by omega, by omega, kn.l 1 rfl, kn.hs (pre := [_, _, _, _, _, _]), kn.t 0 rfl, .inr ⟨⟨g, .inr rfl⟩, fun H2 s2 => ?_⟩⟩
      have kn := kn.same s2
      walk_at "wp"
      refine w_kPut kn 0 rfl nd_w rfl 9 rfl rfl fun H3 kn => ?_
      walk_at "pm"
      walk_at "wp"
      refine w_lcL kn (SqL.of (kn.l 1 rfl)) (fun D i H' => ∃ xs : List V, xs.length = i ∧ Kn H M [] H' ((D, .lst xs) :: (W.wd, .dK (zipK wK [.ref W.hl, .ref W.rw, .ref W.wn, .ref W.lf, .int at_, .str state, .int steps, .int own, .int settles, .bl X.slot.isSome, .ref W.sn])) :: (W.hl, .lst (dRefs As)) :: (W.rw, .lst (rs.map V.ref)) :: (W.wn, .lst (whens.map V.int)) :: (W.lf, .lst (left.map V.int)) :: (W.sn, .lst (seen.map V.ref)) :: hObsU As X) [(cl, [.str "turn", .int g, .int As.length]), (a, [.ref va, .int C.size, .ref ca, .ref ba])] (fun H => At H rs (row.map Row.its) ∧ CodeAt H a C va ca ba as))
        (fun D H' kn => ⟨[], rfl, kn⟩) (fun D i H' _ hp => ?_) (fun D i x H' hx hi hp => ?_) (fun D H' hp => ?_)
      · obtain ⟨_, _, kn⟩ := hp
        exact SqL.of (kn.l 2 rfl)
      · obtain ⟨xs, lx, kn⟩ := hp
        obtain ⟨A, _, hm, rfl⟩ := ha_get hx
        rw [List.length_map] at hi
        have hd := (kn.hs (pre := [_, _, _, _, _, _, _])).d hm
        walk_at "wp"
        refine w_kAcc kn 0 rfl (by omega) fun H4 kn => ?_
        exact ⟨xs ++ [slotV X.slot], by rw [List.length_append, lx] <;> rfl, kn⟩
      · obtain ⟨xs, lx, kn⟩ := hp
        walk_at "wp"
        refine w_append kn 6 rfl (by rw [List.length_map]; show seen.length ≤ 100000; omega) fun H4 kn => ?_
        walk_at "pm"
        have kn := kn.drop
        have es : seen.map V.ref ++ [V.ref D] = (seen ++ [D]).map V.ref := by rw [List.map_append] <;> rfl
        rw [es] at kn
        have ls : (seen ++ [D]).length ≤ seen.length + 1 := by rw [List.length_append] <;> exact Nat.le_refl _
        walk_at "wp"
        refine ⟨a, W.hl, C, As, X, rfl, rfl, rfl, ⟨va, ca, ba, as, kn.pp.2⟩, hv, hvl, kn.l 1 rfl, kn.hs (pre := [_, _, _, _, _, _]), fun H5 s5 => ?_⟩
        have kn := kn.same s5
        walk_at "wp"
        cases eX : X.slot with
        | none =>
          have eU : settleU C.size (.turn g As.length) X ⟨row, left, at_, state, steps, true⟩ = (X, ⟨row, left, at_, state, steps, false⟩, false) := by
            unfold settleU
            rw [eX]
          rw [eU] at q
          rw [eX] at kn
          walk_at "wp"
          exact q As ⟨own, settles, whens, seen ++ [D], rs⟩ H5 rfl rfl rfl rfl ls (kn.noT.imp (At.mo _ _) fun h => h.1)
        | some v =>
          have eU : settleU C.size (.turn g As.length) X ⟨row, left, at_, state, steps, true⟩ = (⟨X.regs, X.cells, none⟩, ⟨row, left, if v ≠ 0 then g else at_, state, steps, true⟩, true) := by
            unfold settleU
            rw [eX]
          rw [eU] at q
          rw [eX] at kn
          walk_at "wp"
          refine w_clear (pre := [_, _, _, _, _, _]) (X := X) (As := As) kn (by simp) fun a5 H6 kn => ?_
          walk_at "pm"
          walk_at "wp"
          refine w_neI (i := v) ?_
          walk_at "wp"
          refine kIf_d (fun e => ?_) fun e => ?_
          · walk_at "wp"
            rw [if_neg (by simpa using e)] at q
            exact q As ⟨own, settles, whens, seen ++ [D], rs⟩ H6 rfl rfl rfl rfl ls (kn.noT.imp (At.mo _ _) fun h => h.1)
          · walk_at "wp"
            rw [if_pos e] at q
            refine w_kPut kn 0 rfl nd_w rfl 4 rfl rfl fun H7 kn => ?_
            walk_at "pm"
            walk_at "wp"
            exact q As ⟨own, settles, whens, seen ++ [D], rs⟩ H7 rfl rfl rfl rfl ls (kn.noT.imp (At.mo _ _) fun h => h.1)
end
end Hue
set_option Elab.async false
set_option linter.all false
set_option maxRecDepth 100000
set_option maxHeartbeats 4000000
set_option autoImplicit false
namespace Hue
open PySem PySem.Spec PyProof.Rows L2
def N_law_weave_ran : List Str := [("_law_code" : Str), ("_law_inputs_here" : Str), ("_law_most" : Str), ("_law_world" : Str), ("_law_at" : Str), ("_law_items" : Str), ("_law_cell" : Str), ("_law_hue" : Str)]
theorem sc_law_weave_ran : FnScope N_law_weave_ran [("_law_code" : Str), ("_law_inputs_here" : Str), ("_law_most" : Str)] (defScope s_law_weave_ran) := ⟨rfl, rfl, rfl, by decide +kernel, rfl, by decide +kernel, by decide +kernel⟩
/-! ### the run -/
structure RS where
  hues : List HueV
  ms : MS
def hue0 : HueV := ⟨[], [], none⟩
def stepR (C : Code) (R : RS) : RS :=
  if (C.cells.length : Int) ≤ R.ms.at_ then ⟨R.hues, { R.ms with steps := R.ms.steps + 1, state := "caught" }⟩ else
  match C.cells[R.ms.at_.toNat]? with
  | some (.ins h i) => ⟨R.hues.set h.toNat (doneP C.size ((R.hues[h.toNat]?).getD hue0) i), { R.ms with steps := R.ms.steps + 1, at_ := R.ms.at_ + 1 }⟩
  | some c =>
    let r := settleU C.size c (R.hues.headD hue0) { R.ms with steps := R.ms.steps + 1, at_ := R.ms.at_ + 1 }
    ⟨List.replicate R.hues.length r.1, if r.2.2 = true then r.2.1 else { r.2.1 with state := "caught" }⟩
  | none => R
def runR (C : Code) : Nat → RS → RS
  | 0, R => R
  | k + 1, R => if R.ms.state = ("running" : Str) then runR C k (stepR C R) else R
structure GoodR (C : Code) (R : RS) : Prop where
  n : R.hues.length = C.votes.length
  ok : ∀ X ∈ R.hues, X.Ok C.size C.bank.length
  at0 : 0 ≤ R.ms.at_
  ev : R.ms.even = true
  lf : R.ms.left.length ≤ 1000
  rw : R.ms.row.length ≤ 10000
  se : ∀ c, C.cells[R.ms.at_.toNat]? = some c → (∀ j i, c ≠ .ins j i) → c.wide_ C.votes.length ∧ R.hues = List.replicate C.votes.length (R.hues.headD hue0)
theorem settleU_steps (m : Int) (c : Cell) (X : HueV) (S : MS) : (settleU m c X S).2.1.steps = S.steps := by
  unfold settleU
  cases c <;> first | rfl | (cases X.slot <;> rfl)
def GoodRun (C : Code) : Nat → RS → Prop
  | 0, _ => True
  | k + 1, R => R.ms.state = ("running" : Str) → GoodR C R ∧ GoodRun C k (stepR C R)
def init (C : Code) (ins : List Int) : RS := ⟨List.replicate C.votes.length ⟨List.replicate 8 0, C.bank, none⟩, ⟨[], ins, 0, "running", 0, true⟩⟩
def hObsM : List HA → List HueV → Obs
  | A :: As, X :: Xs => hTri A X ++ hObsM As Xs
  | _, _ => []
theorem hObsM_rep (X : HueV) : ∀ As : List HA, hObsM As (List.replicate As.length X) = hObsU As X
  | [] => rfl
  | A :: As => by
    show hTri A X ++ hObsM As (List.replicate As.length X) = hTri A X ++ hObsU As X
    rw [hObsM_rep X As]
theorem hObsM_split : ∀ {As : List HA} {Xs : List HueV} {j : Nat} {A : HA} {X : HueV}, As[j]? = some A → Xs[j]? = some X → ∃ a b : Obs, hObsM As Xs = a ++ (hTri A X ++ b) ∧ ∀ X', hObsM As (Xs.set j X') = a ++ (hTri A X' ++ b)
  | [], _, _, _, _, h, _ => by cases h
  | _ :: _, [], _, _, _, _, h => by cases h
  | A0 :: As, X0 :: Xs, 0, A, X, h1, h2 => by
    cases h1
    cases h2
    exact ⟨[], hObsM As Xs, rfl, fun X' => rfl⟩
  | A0 :: As, X0 :: Xs, j + 1, A, X, h1, h2 => by
    obtain ⟨a, b, e1, e2⟩ := hObsM_split (As := As) (Xs := Xs) (j := j) h1 h2
    refine ⟨hTri A0 X0 ++ a, b, ?_, fun X' => ?_⟩
    · show hTri A0 X0 ++ hObsM As Xs = _
      rw [e1, List.append_assoc]
    · show hTri A0 X0 ++ hObsM As (Xs.set j X') = _
      rw [e2, List.append_assoc]
def rRan : V → V → V → Hp → VK → XK → Prop := fun x y z H Q _ => ∃ (a il : Addr) (C : Code) (ins : List Int) (most : Nat), x = .ref a ∧ y = .ref il ∧ z = .int (most : Int) ∧ IsCode H a C ∧ C.Ok ∧ H il = some (.lst (ins.map V.int)) ∧ ins.length ≤ 1000 ∧ most ≤ 2000 ∧ GoodRun C most (init C ins) ∧
  ∀ (W : WA) (As : List HA) (E : XS) H', As.length = C.votes.length → Kn H [] [] H' (wObs W As (runR C most (init C ins)).ms E (hObsM As (runR C most (init C ins)).hues)) [] (fun H => At H E.rs ((runR C most (init C ins)).ms.row.map Row.its)) → Q (.ref W.wd) H'
theorem w_kPutN {H0 H : Hp} {M : List Addr} {R L : Obs} {T : Tps} {P : Hp → Prop} {a : Addr} {ks : List Str} {vs : List V} {k : Str} {v : V} (kn : Kn H0 M R H L T P) (j : Nat) (hj : L[j]? = some (a, .dK (zipK ks vs))) (nk : k ∉ ks) (hl : ks.length = vs.length) (hs : Nat.ble ks.length 1000 = true) {Z : Hp → Prop}
    (h : ∀ H', Kn H0 M R H' (L.set j (a, .dK (zipK (ks ++ [k]) (vs ++ [v])))) T P → Z H') : kPut (.ref a) (.str k) v H Z := by
  have hl2 : (zipK ks vs).length < sizeLine := Nat.lt_of_le_of_lt (zipK_length ks vs) (Nat.lt_of_le_of_lt (Nat.le_of_ble_eq_true hs) (by decide))
  have e := DPut.k (k := Sum.inr k) (v := v) (kn.l j hj) hl2
  refine ⟨a, _, rfl, e, h _ ?_⟩
  rw [putK_new v (valV_zip_none nk), zipK_app hl]
  exact kn.put _ hj rfl
section
variable {P : Program} {w : World} {K : PySem.W.Frag} {mg : Str → Option Value} {base : Heap}
theorem ok_law_weave_ran (D : DefAt K mg "_law_weave_ran" s_law_weave_ran) (T : Txt K mg) (C_law_fresh_hue : Cal P w K mg base CX0 1 "_law_fresh_hue" [("_law_code" : Str)] (Sp1 rFresh))
    (C_law_hue_done : Cal P w K mg base CX0 2 "_law_hue_done" [("_law_own" : Str), ("_law_cell" : Str), ("_law_size_here" : Str)] (Sp3 rHueDone)) (C_law_weave_settled : Cal P w K mg base CX0 2 "_law_weave_settled" [("_law_code" : Str), ("_law_world" : Str), ("_law_cell" : Str)] (Sp3 rSettled)) :
    Cal P w K mg base CX0 3 "_law_weave_ran" [("_law_code" : Str), ("_law_inputs_here" : Str), ("_law_most" : Str)] (Sp3 rRan) := by
  refine cal_of D sc_law_weave_ran (fun _ _ _ _ _ _ us hl => match us, hl with | [_, _, _], _ => rfl) (fun vs H Q E h => ?_) (fun f cdv A outer s H vs Q E hr h => ⟨_, PSs.nox ((pss_cons (ps_set (i := 3) sc_law_weave_ran.nd rfl (Or.inl rfl) (pe_disp (pps_cons pe_str (pe_lc (own := [("_law_hue", 7)]) rfl sc_law_weave_ran.nd (pi_tupK (K := K) (pe_ix (ix_tupK (K := K)) (pv 0) pe_int (fun _ _ => rfl))) (blkOk_by (own := [("_law_hue", 7)]) (N := N_law_weave_ran) (sc := defScope s_law_weave_ran) (by decide +kernel)) (fun _ _ _ _ _ => (pg_name (i := 7) sc_law_weave_ran.nd rfl (by first | exact Or.inl rfl | exact Or.inr rfl))) (fun _ _ _ _ _ => pts_nil) (fun _ _ _ _ _ => by exact (pe_cl C_law_fresh_hue hr (by decide) pass0 rfl (pa_cons (pv 0) pa_nil)))) (pps_cons pe_str (pe_lst pa_nil) (pps_cons pe_str (pe_lst pa_nil) (pps_cons pe_str (pe_callTy (cr_lstK (K := K)) (by rfl) T.b_list (by decide +kernel) (pa_cons (pv 1) pa_nil)) (pps_cons pe_str pe_int pps_nil))))) (by rfl) (by rfl) (fun z => by cases z) (by decide)))
      (pss_cons (ps_asg (pe_tup (pa_cons pe_str (pa_cons pe_int (pa_cons pe_int (pa_cons pe_int pa_nil))))) (pg_tupK (K := K) (n := 4) rfl (pgs_cons (pg_sub (pv 3) pe_str (set_dict (hu_of hr))) (pgs_cons (pg_sub (pv 3) pe_str (set_dict (hu_of hr))) (pgs_cons (pg_sub (pv 3) pe_str (set_dict (hu_of hr))) (pgs_cons (pg_sub (pv 3) pe_str (set_dict (hu_of hr))) pgs_nil))))))
      (pss_cons (ps_asg (pe_tup (pa_cons pe_bl (pa_cons (pe_lst pa_nil) pa_nil))) (pg_tupK (K := K) (n := 2) rfl (pgs_cons (pg_sub (pv 3) pe_str (set_dict (hu_of hr))) (pgs_cons (pg_sub (pv 3) pe_str (set_dict (hu_of hr))) pgs_nil))))
      (pss_cons (ps_while PassesOwn.never (PW.pt (pw_and (pt_cmpR op_eq (pe_dget (hu_of hr) (pv 3) pe_str (fun _ _ => rfl)) pe_str (nomark _)) (pw_and1 (pt_cmpR op_lt (pe_dget (hu_of hr) (pv 3) pe_str (fun _ _ => rfl)) (pv 2) (nomark _))))) (pss_cons (ps_par (i := 4) (j := 5) (by rfl) sc_law_weave_ran.nd rfl rfl (by decide) rfl rfl (pa_cons (pe_dget (hu_of hr) (pv 3) pe_str (fun _ _ => rfl)) (pa_cons (pe_callB (cr_lenK (K := K)) (by rfl) T.b_len (by decide +kernel) (pa_cons (pe_dget (hu_of hr) (pv 3) pe_str (fun _ _ => rfl)) pa_nil)) pa_nil)) (by rfl))
      (pss_cons (ps_dput (hu_of hr) (pv 3) pe_str (pe_op op_add (pe_dget (hu_of hr) (pv 3) pe_str (fun _ _ => rfl)) pe_int) rfl)
      (pss_one (ps_if (pt_cmpR op_ge (pv 4) (pe_callB (cr_lenK (K := K)) (by rfl) T.b_len (by decide +kernel) (pa_cons (pe_ix (ix_tupK (K := K)) (pv 0) pe_int (fun _ _ => rfl)) pa_nil)) (nomark _)) (pss_one (ps_dput (hu_of hr) (pv 3) pe_str pe_str rfl)) (pss_cons (ps_set (i := 6) sc_law_weave_ran.nd rfl (Or.inl rfl) (pe_ix (ix_tupK (K := K)) (pe_ix (ix_tupK (K := K)) (pv 0) pe_int (fun _ _ => rfl)) (pv 4) (fun _ _ => rfl)))
      (pss_cons (ps_dput (hu_of hr) (pv 3) pe_str (pe_op op_add (pv 4) pe_int) rfl)
      (pss_cons (ps_if (pt_val (pe_callB (cr_isiK (K := K)) (by rfl) T.b_isinstance (by decide +kernel) (pa_cons (pe_ix (ix_tupK (K := K)) (pv 6) pe_int (fun _ _ => rfl)) (pa_cons (pe_bltn (v := .ty "int") (by rfl) T.b_int (by decide +kernel) rfl) pa_nil)))) (pss_cons (ps_expr (pe_cl C_law_hue_done hr (by decide) pass0 rfl (pa_cons (pe_ix (ix_listK (K := K)) (pe_dget (hu_of hr) (pv 3) pe_str (fun _ _ => rfl)) (pe_ix (ix_tupK (K := K)) (pv 6) pe_int (fun _ _ => rfl)) (fun _ _ => rfl)) (pa_cons (pv 6) (pa_cons (pe_ix (ix_tupK (K := K)) (pv 0) pe_int (fun _ _ => rfl)) pa_nil)))))
      (pss_one (ps_dput (hu_of hr) (pv 3) pe_str (pe_op op_add (pe_dget (hu_of hr) (pv 3) pe_str (fun _ _ => rfl)) pe_int) rfl))) (pss_one (ps_if (pt_val (pe_cl C_law_weave_settled hr (by decide) pass0 rfl (pa_cons (pv 0) (pa_cons (pv 3) (pa_cons (pv 6) pa_nil))))) (pss_one (ps_dput (hu_of hr) (pv 3) pe_str (pe_op op_add (pe_dget (hu_of hr) (pv 3) pe_str (fun _ _ => rfl)) pe_int) rfl)) (pss_one (ps_dput (hu_of hr) (pv 3) pe_str pe_str rfl)))))
      (pss_one (ps_if (pt_cmpR op_gt (pe_callB (cr_lenK (K := K)) (by rfl) T.b_len (by decide +kernel) (pa_cons (pe_dget (hu_of hr) (pv 3) pe_str (fun _ _ => rfl)) pa_nil)) (pv 5) (nomark _)) (pss_one (ps_expr (pe_bmK (K := K) PySem.F.plainAttrs_list PySem.F.slot_list_append PySem.F.type_list_append mt_append (pe_dget (hu_of hr) (pv 3) pe_str (fun _ _ => rfl)) (pa_cons (pe_dget (hu_of hr) (pv 3) pe_str (fun _ _ => rfl)) pa_nil)))) pss_nil))))))))))
      (pss_one (ps_ret (pv 3)))))))), ?_⟩)
  · obtain ⟨a, b, c, rfl, _⟩ := h
    rfl
  · obtain ⟨x, y, z, rfl, a, il, C, ins, most, rfl, rfl, rfl, hC, hok, hil, hin, hmost, hgood, q⟩ := h
    have hC0 := hC
    obtain ⟨va, ca, ba, as, hC⟩ := hC
    have v1 := hok.v.1
    have v5 := hok.v.2.1
    have hs2 := hok.s
    have hbk := hok.b
    have la : as.length = C.cells.length := Code.len hC
    have kn := (Kn.start0T (H0 := H) (T := [(a, [.ref va, .int C.size, .ref ca, .ref ba]), (va, C.votes.map V.int)]) (fun q hq => by
      simp only [List.mem_cons, List.not_mem_nil, or_false] at hq
      rcases hq with e | e <;> rw [e]
      · exact hC.top
      · exact hC.vt)).imp (CodeAt.mo a C va ca ba as) fun _ => hC
    walk_at "wp"
    refine w_disp kn fun wd H1 kn => ?_
    walk_at "wp"
    refine w_lcT kn (SqT.of (kn.t 1 rfl)) (fun D i H' => ∃ As : List HA, As.length = i ∧ Kn H [] [] H' ((D, .lst (dRefs As)) :: (wd, .dK []) :: hObsU As ⟨List.replicate 8 0, C.bank, none⟩) [(a, [.ref va, .int C.size, .ref ca, .ref ba]), (va, C.votes.map V.int)] (fun H => CodeAt H a C va ca ba as))
      (fun D H' kn => ⟨[], rfl, kn⟩) (fun D i H' _ hp => ?_) (fun D i x H' hx hi hp => ?_) (fun D H' hp => ?_)
    · obtain ⟨_, _, kn⟩ := hp
      exact SqT.of (kn.t 1 rfl)
    · obtain ⟨As, lA, kn⟩ := hp
      rw [List.length_map] at hi
      walk_at "wp"
      refine ⟨a, C, rfl, ⟨va, ca, ba, as, kn.pp⟩, fun A H2 kn' => ?_⟩
      have kn2 := (Kn.trans (L1 := []) kn kn' (fun b hb => by cases hb)).tps (T' := [(a, [.ref va, .int C.size, .ref ca, .ref ba]), (va, C.votes.map V.int)]) (fun q hq => by
        simp only [List.mem_cons, List.not_mem_nil, or_false] at hq
        rcases hq with e | e <;> rw [e]
        · exact kn'.fr.tup _ _ kn.pp.top
        · exact kn'.fr.tup _ _ kn.pp.vt)
      have kn3 := kn2.perm (L' := (D, .lst (dRefs As)) :: (wd, .dK []) :: hObsU (As ++ [A]) ⟨List.replicate 8 0, C.bank, none⟩) (by
        rw [hObsU_snoc]
        refine (List.perm_append_comm_assoc (hTri A _) [(D, HO.lst (dRefs As)), (wd, .dK [])] (hObsU As _)).trans ?_
        exact List.Perm.append_left [(D, HO.lst (dRefs As)), (wd, .dK [])] List.perm_append_comm)
      refine w_kAcc kn3 0 rfl (by rw [List.length_map]; omega) fun H4 kn4 => ?_
      refine ⟨As ++ [A], by rw [List.length_append, lA] <;> rfl, ?_⟩
      have e : dRefs As ++ [V.ref A.d] = dRefs (As ++ [A]) := by
        show As.map _ ++ _ = (As ++ [A]).map _
        rw [List.map_append] <;> rfl
      have kn5 := kn4.imp (S := fun H => CodeAt H a C va ca ba as) (CodeAt.mo _ _ _ _ _ _) fun h => h.1
      rw [← e]
      exact kn5
    · obtain ⟨As, lA, kn⟩ := hp
      rw [List.length_map] at lA
      walk_at "wp"
      refine w_kLst kn rfl fun rwl H2 kn => ?_
      walk_at "wp"
      refine w_kLst kn rfl fun wn H3 kn => ?_
      walk_at "wp"
      refine w_lstOf kn (.inl (SqL.of (kn.fr.toSame _ _ hil))) fun lf H4 kn => ?_
      walk_at "wp"
      refine w_kDisp kn 4 rfl [("hues" : Str), ("row" : Str), ("when" : Str), ("left" : Str), ("at" : Str)] [.ref D, .ref rwl, .ref wn, .ref lf, .int 0] (by decide +kernel) rfl rfl rfl fun H5 kn => ?_
      walk_at "pm"
      walk_at "wp"
      refine w_kTup kn rfl fun t4 H6 kn => ?_
      walk_at "wp"
      refine w_kPutN kn 4 rfl (by decide +kernel) rfl rfl fun H7 kn => ?_
      walk_at "pm"
      walk_at "wp"
      refine w_kPutN kn 4 rfl (by decide +kernel) rfl rfl fun H8 kn => ?_
      walk_at "pm"
      walk_at "wp"
      refine w_kPutN kn 4 rfl (by decide +kernel) rfl rfl fun H9 kn => ?_
      walk_at "pm"
      walk_at "wp"
      refine w_kPutN kn 4 rfl (by decide +kernel) rfl rfl fun H10 kn => ?_
      walk_at "pm"
      walk_at "wp"
      refine w_kLst kn rfl fun sn H11 kn => ?_
      walk_at "wp"
      refine w_kTup kn rfl fun t5 H12 kn => ?_
      walk_at "wp"
      refine w_kPutN kn 5 rfl (by decide +kernel) rfl rfl fun H13 kn => ?_
      walk_at "pm"
      walk_at "wp"
      refine w_kPutN kn 5 rfl (by decide +kernel) rfl rfl fun H14 kn => ?_
      walk_at "pm"
      walk_at "wp"
      have kn := kn.pmn 6 [5, 4, 3, 2, 1, 0] (by decide) (by decide)
      walk_at "pm"
      have kn : Kn H [] [] H14 (wObs ⟨wd, D, rwl, wn, lf, sn⟩ As (init C ins).ms ⟨0, 0, [], [], []⟩ (hObsM As (init C ins).hues)) [] (fun H => CodeAt H a C va ca ba as ∧ At H [] []) := by
        have e : hObsM As (init C ins).hues = hObsU As ⟨List.replicate 8 0, C.bank, none⟩ := by
          show hObsM As (List.replicate C.votes.length _) = _
          rw [← lA, hObsM_rep]
        rw [e]
        exact (kn.and (S := fun H => At H [] []) (At.mo _ _) .nil).noT
      obtain ⟨W, hW⟩ : ∃ W : WA, W = ⟨wd, D, rwl, wn, lf, sn⟩ := ⟨_, rfl⟩
      rw [← hW] at kn
      have ewd : W.wd = wd := by rw [hW]
      rw [← ewd]
      refine w_while (fun k σ' H' => ∃ (R : RS) (As : List HA) (E : XS) (a4 a5 a6 : Option V), σ' = [some (.ref a), some (.ref il), some (.int most), some (.ref W.wd), a4, a5, a6, none] ∧ runR C k R = runR C most (init C ins) ∧ GoodRun C k R ∧ R.ms.steps + k = most ∧ E.seen.length + k ≤ most ∧ E.whens.length + k ≤ most ∧
          As.length = C.votes.length ∧ Kn H [] [] H' (wObs W As R.ms E (hObsM As R.hues)) [] (fun H => CodeAt H a C va ca ba as ∧ At H E.rs (R.ms.row.map Row.its)))
        most ⟨init C ins, As, ⟨0, 0, [], [], []⟩, none, none, none, rfl, rfl, hgood, Int.zero_add _, by show 0 + most ≤ most; omega, by show 0 + most ≤ most; omega, lA, kn⟩ (fun k σ' H' hp => ?_)
      obtain ⟨R, As, EX, a4, a5, a6, rfl, hrun, hgd, hst, hsn, hwn, lA, kn⟩ := hp
      have fin : runR C k R = R → Q (.ref W.wd) H' := fun e => by
        rw [e] at hrun
        rw [← hrun] at q
        exact q W As EX H' lA (kn.imp (At.mo _ _) fun h => h.2)
      have ek : ∀ {j : Nat}, k = j + 1 → R.ms.state = ("running" : Str) → GoodR C R ∧ GoodRun C j (stepR C R) ∧ runR C j (stepR C R) = runR C most (init C ins) := fun {j} e er => by
        subst e
        have h := hgd er
        refine ⟨h.1, h.2, ?_⟩
        rw [← hrun]
        show _ = if R.ms.state = ("running" : Str) then runR C j (stepR C R) else R
        rw [if_pos er]
      obtain ⟨hues, ms⟩ := R
      obtain ⟨row, left, at_, state, steps, even⟩ := ms
      obtain ⟨own, settles, whens, seen, rs⟩ := EX
      unfold wObs at kn
      have hst : steps + (k : Int) = most := hst
      walk_at "wp"
      refine w_eqS rfl ?_
      walk_at "wp"
      refine kIf_d (fun er => ?_) fun er => ?_
      rotate_left
      · walk_at "wp"
        refine fin ?_
        cases k with
        | zero => rfl
        | succ k => exact if_neg er
      walk_at "wp"
      refine kIf_d (fun es => ?_) fun es => ?_
      rotate_left
      · walk_at "wp"
        refine fin ?_
        have : k = 0 := by omega
        rw [this] <;> rfl
      obtain ⟨j, rfl⟩ : ∃ j, k = j + 1 := ⟨k - 1, by omega⟩
      obtain ⟨hG, hgd', hrun'⟩ := ek rfl er
      obtain ⟨gn, gok, gat, gev, glf, grw, gse⟩ := hG
      have gn : hues.length = C.votes.length := gn
      have gat : 0 ≤ at_ := gat
      have gev : even = true := gev
      have glf : left.length ≤ 1000 := glf
      have grw : row.length ≤ 10000 := grw
      subst gev
      refine w_kLoop ?_
      have kn := kn.tps (T' := [(a, [.ref va, .int C.size, .ref ca, .ref ba]), (ca, as.map V.ref)]) (fun q hq => by
        simp only [List.mem_cons, List.not_mem_nil, or_false] at hq
        rcases hq with e | e <;> rw [e]
        · exact kn.pp.1.top
        · exact kn.pp.1.ct)
      walk_at "wp"
      refine w_kPut kn 0 rfl nd_w rfl 6 rfl rfl fun H1 kn => ?_
      walk_at "pm"
      walk_at "wp"
      rw [List.length_map, la]
      have hsn : seen.length + (j + 1) ≤ most := hsn
      have hwn : whens.length + (j + 1) ≤ most := hwn
      refine kIf_d (fun ec => ?_) fun ec => ?_
      · have ec : (C.cells.length : Int) ≤ at_ := ec
        have eR : stepR C ⟨hues, ⟨row, left, at_, state, steps, true⟩⟩ = ⟨hues, ⟨row, left, at_, "caught", steps + 1, true⟩⟩ := if_pos ec
        rw [eR] at hgd' hrun'
        walk_at "wp"
        refine w_kPut kn 0 rfl nd_w rfl 5 rfl rfl fun H2 kn => ?_
        walk_at "pm"
        walk_at "wp"
        exact ⟨j, Nat.lt_succ_self j, _, As, ⟨own, settles, whens, seen, rs⟩, _, _, _, rfl, hrun', hgd', by show steps + 1 + (j : Int) = most; omega, by show seen.length + j ≤ most; omega, by show whens.length + j ≤ most; omega, lA, kn.noT⟩
      · have ec : ¬ (C.cells.length : Int) ≤ at_ := ec
        obtain ⟨p, rfl⟩ := Int.eq_ofNat_of_zero_le gat
        have hp : p < C.cells.length := by omega
        have hp2 : p < as.length := by omega
        have e1 : as[p]? = some as[p] := List.getElem?_eq_getElem hp2
        have ecc : C.cells[p]? = some C.cells[p] := List.getElem?_eq_getElem hp
        have hco := hok.cn _ (List.getElem_mem hp)
        have hcell : ∀ {H2 : Hp}, CodeAt H2 a C va ca ba as → H2 as[p] = some (.tup C.cells[p].its) := fun {H2} h => by
          obtain ⟨its, e2, h2⟩ := h.cs.get' e1
          rw [List.getElem?_map, ecc] at e2
          rw [h2, ← Option.some.inj e2]
        generalize hcc : C.cells[p] = cc at ecc hcell hco
        generalize hcl : as[p] = cl at e1 hcell
        have gse := gse cc ecc
        have eR : stepR C ⟨hues, ⟨row, left, (p : Int), state, steps, true⟩⟩ = (match (some cc : Option Cell) with
          | some (.ins h i) => ⟨hues.set h.toNat (doneP C.size ((hues[h.toNat]?).getD hue0) i), ⟨row, left, (p : Int) + 1, state, steps + 1, true⟩⟩
          | some c =>
            let r := settleU C.size c (hues.headD hue0) ⟨row, left, (p : Int) + 1, state, steps + 1, true⟩
            ⟨List.replicate hues.length r.1, if r.2.2 = true then r.2.1 else { r.2.1 with state := "caught" }⟩
          | none => ⟨hues, ⟨row, left, (p : Int), state, steps, true⟩⟩) := by
          unfold stepR
          rw [if_neg (show ¬ (C.cells.length : Int) ≤ (p : Int) from ec)]
          show (match C.cells[((p : Int)).toNat]? with | some (.ins h i) => _ | some c => _ | none => _) = _
          have ep : ((p : Int)).toNat = p := rfl
          rw [ep, ecc]
        have hat : atI (as.map V.ref) (p : Int) = some (.ref cl) := atI_nat (by rw [List.getElem?_map, e1] <;> rfl)
        walk_at "wp"
        refine w_ixT (SqT.of (kn.t 1 rfl)) hat ?_
        walk_at "wp"
        refine w_kPut kn 0 rfl nd_w rfl 4 rfl rfl fun H2 kn => ?_
        walk_at "pm"
        walk_at "wp"
        have hC2 := kn.pp.1
        have hb2 := hcell hC2
        have lrs : rs.length = row.length := by
          have := kn.pp.2.len
          simpa using this
        have tail : ∀ (hues2 : List HueV) (S2 : MS) (E2 : XS) (As2 : List HA) (H3 : Hp) (TT : Tps), stepR C ⟨hues, ⟨row, left, (p : Int), state, steps, true⟩⟩ = ⟨hues2, S2⟩ → S2.steps = steps + 1 → As2.length = C.votes.length → E2.seen.length ≤ seen.length + 1 → E2.whens = whens →
            Kn H [] [] H3 (wObs W As2 S2 E2 (hObsM As2 hues2)) TT (fun H => CodeAt H a C va ca ba as ∧ At H E2.rs (S2.row.map Row.its)) →
            ∀ {tt : TS}, tt = (tIfS (tTest (tOp (rI0 fun i j => V.bl (decide (j < i))) (tCB (rLn K) (tCons (tDGet (tVar 3) (tC (V.str "row"))) tNil)) (tVar 5))) (tDrop (tBM K "list" rAppend (tDGet (tVar 3) (tC (V.str "when"))) (tCons (tDGet (tVar 3) (tC (V.str "steps"))) tNil))) tNext) → ∀ {a6 : Option V} {bk ct : L2.St → Hp → Prop} {r : VK},
            tt ⟨fun σ' H' => ∃ m', m' < j + 1 ∧ ∃ (R : RS) (As : List HA) (E : XS) (a4 a5 a6 : Option V), σ' = [some (.ref a), some (.ref il), some (.int most), some (.ref W.wd), a4, a5, a6, none] ∧ runR C m' R = runR C most (init C ins) ∧ GoodRun C m' R ∧ R.ms.steps + m' = most ∧ E.seen.length + m' ≤ most ∧ E.whens.length + m' ≤ most ∧
              As.length = C.votes.length ∧ Kn H [] [] H' (wObs W As R.ms E (hObsM As R.hues)) [] (fun H => CodeAt H a C va ca ba as ∧ At H E.rs (R.ms.row.map Row.its)), r, bk, ct⟩ [some (.ref a), some (.ref il), some (.int most), some (.ref W.wd), some (.int (p : Int)), some (.int ((rs.map V.ref).length : Nat)), a6, none] H3 :=
          fun hues2 S2 E2 As2 H3 TT e hs2 hA2 hsn2 hw2 knT tt et a6 bk ct r => by
            subst et
            rw [e] at hrun' hgd'
            obtain ⟨row2, left2, at2, state2, steps2, even2⟩ := S2
            obtain ⟨own2, settles2, whens2, seen2, rs2⟩ := E2
            have hw2 : whens2 = whens := hw2
            have hsn2 : seen2.length ≤ seen.length + 1 := hsn2
            have hs2 : steps2 = steps + 1 := hs2
            subst hw2
            have kn := knT
            unfold wObs at kn
            walk_at "wp"
            refine kIf_d (fun _ => ?_) fun _ => ?_
            · walk_at "wp"
              refine w_append kn 3 rfl (by rw [List.length_map]; show whens2.length ≤ 100000; omega) fun H4 kn => ?_
              walk_at "pm"
              walk_at "wp"
              have ew : whens2.map V.int ++ [V.int steps2] = (whens2 ++ [steps2]).map V.int := by rw [List.map_append] <;> rfl
              rw [ew] at kn
              exact ⟨j, Nat.lt_succ_self j, _, As2, ⟨own2, settles2, whens2 ++ [steps2], seen2, rs2⟩, _, _, _, rfl, hrun', hgd', by show steps2 + (j : Int) = most; omega, by show seen2.length + j ≤ most; omega, by show (whens2 ++ [steps2]).length + j ≤ most; rw [List.length_append]; show whens2.length + 1 + j ≤ most; omega, hA2, kn.noT⟩
            · walk_at "wp"
              exact ⟨j, Nat.lt_succ_self j, _, As2, ⟨own2, settles2, whens2, seen2, rs2⟩, _, _, _, rfl, hrun', hgd', by show steps2 + (j : Int) = most; omega, by show seen2.length + j ≤ most; omega, by show whens2.length + j ≤ most; omega, hA2, kn.noT⟩
        have eS : (∀ j i, cc ≠ .ins j i) → stepR C ⟨hues, ⟨row, left, (p : Int), state, steps, true⟩⟩ =
            ⟨List.replicate hues.length (settleU C.size cc (hues.headD hue0) ⟨row, left, (p : Int) + 1, state, steps + 1, true⟩).1, if (settleU C.size cc (hues.headD hue0) ⟨row, left, (p : Int) + 1, state, steps + 1, true⟩).2.2 = true then (settleU C.size cc (hues.headD hue0) ⟨row, left, (p : Int) + 1, state, steps + 1, true⟩).2.1 else { (settleU C.size cc (hues.headD hue0) ⟨row, left, (p : Int) + 1, state, steps + 1, true⟩).2.1 with state := "caught" }⟩ := fun hn => by
          rw [eR]
          cases cc <;> first | rfl | exact absurd rfl (hn _ _)
        have sett : (∀ j i, cc ≠ .ins j i) → ∀ {Z : V → Hp → Prop} {EE : XK}, (∀ (X2 : HueV) (S2 : MS) (b : Bool) (E2 : XS) (As2 : List HA) (H3 : Hp), stepR C ⟨hues, ⟨row, left, (p : Int), state, steps, true⟩⟩ = ⟨List.replicate hues.length X2, if b = true then S2 else { S2 with state := "caught" }⟩ → S2.steps = steps + 1 → As2.length = hues.length → E2.seen.length ≤ seen.length + 1 → E2.whens = whens → E2.own = own → E2.settles = settles →
            Kn H [] [] H3 (wObs W As2 S2 E2 (hObsM As2 (List.replicate hues.length X2))) [] (fun H => CodeAt H a C va ca ba as ∧ At H E2.rs (S2.row.map Row.its)) → Z (.bl b) H3) → rSettled (.ref a) (.ref W.wd) (.ref cl) H2 Z EE := fun hn {Z EE} hz => by
          obtain ⟨hwd, hrep⟩ := gse hn
          have hrep : hues = List.replicate C.votes.length (hues.headD hue0) := hrep
          have eS := eS hn
          have hXm : hues.headD hue0 ∈ hues := by
            cases hues with
            | nil =>
              have : (0 : Nat) = C.votes.length := gn
              omega
            | cons x xs => exact List.mem_cons_self
          have hXok := gok _ hXm
          generalize hues.headD hue0 = X at eS hrep hXok
          have eO : hObsM As hues = hObsU As X := by rw [hrep, ← lA, hObsM_rep]
          have kn := kn
          have kn : Kn H [] [] H2 (wObs W As ⟨row, left, (p : Int) + 1, state, steps + 1, true⟩ ⟨own, settles, whens, seen, rs⟩ (hObsU As X) ++ []) [(a, [.ref va, .int C.size, .ref ca, .ref ba]), (ca, as.map V.ref)] (fun H => CodeAt H a C va ca ba as ∧ At H rs (row.map Row.its)) := by
            rw [← eO, List.append_nil]
            exact kn
          refine ⟨a, cl, C, W, As, X, ⟨row, left, (p : Int) + 1, state, steps + 1, true⟩, ⟨own, settles, whens, seen, rs⟩, cc, _, C.bank.length, rfl, rfl, rfl, ⟨va, ca, ba, as, hC2⟩, hok.v, hs2.1, lA.symm, hXok, hbk, hb2, by rw [lA]; exact hwd, rfl, grw, by show seen.length ≤ 10000; omega, glf, rfl, kn.anew.noT.imp (At.mo _ _) fun h => h.2, fun As' E' H3 l' eo es ew esn kn' => ?_⟩
          have kn2 := kn.trans kn' fun b hb => hb
          rw [List.append_nil] at kn2
          have e5 : hObsM As' (List.replicate hues.length (settleU C.size cc X ⟨row, left, (p : Int) + 1, state, steps + 1, true⟩).1) = hObsU As' (settleU C.size cc X ⟨row, left, (p : Int) + 1, state, steps + 1, true⟩).1 := by
            rw [gn, ← lA, ← l', hObsM_rep]
          refine hz _ _ _ E' As' H3 eS (settleU_steps _ _ _ _) (by rw [l', lA, gn]) esn ew eo es ?_
          rw [e5]
          exact kn2.imp (fun _ _ t h => ⟨h.1.mono t, h.2.mono t⟩) fun h => ⟨h.1.1, h.2⟩
        cases cc with
        | ins h i =>
          have eR := eR.trans (show _ = (⟨hues.set h.toNat (doneP C.size ((hues[h.toNat]?).getD hue0) i), ⟨row, left, (p : Int) + 1, state, steps + 1, true⟩⟩ : RS) from rfl)
          obtain ⟨h0, h1, hio⟩ := hco
          obtain ⟨hn, rfl⟩ := Int.eq_ofNat_of_zero_le h0
          have hnl : hn < hues.length := by omega
          have hna : hn < As.length := by omega
          have ea : As[hn]? = some As[hn] := List.getElem?_eq_getElem hna
          have ex : hues[hn]? = some hues[hn] := List.getElem?_eq_getElem hnl
          have hXok := gok _ (List.getElem_mem hnl)
          generalize hAA : As[hn] = AA at ea
          generalize hXX : hues[hn] = XX at ex hXok
          obtain ⟨oa, ob, es1, es2⟩ := hObsM_split ea ex
          have eX : (hues[((hn : Nat) : Int).toNat]?).getD hue0 = XX := by
            show (hues[hn]?).getD hue0 = XX
            rw [ex] <;> rfl
          rw [eX] at eR
          have edr : atI (dRefs As) (hn : Int) = some (.ref AA.d) := atI_nat (by rw [List.getElem?_map, ea] <;> rfl)
          have kn := kn.tps (T' := [(a, [.ref va, .int C.size, .ref ca, .ref ba]), (cl, .int (hn : Int) :: i.its)]) (fun q hq => by
            simp only [List.mem_cons, List.not_mem_nil, or_false] at hq
            rcases hq with e | e <;> rw [e]
            · exact hC2.top
            · exact hb2)
          refine w_ixT (SqT.of (kn.t 1 rfl)) atI_0 ?_
          walk_at "wp"
          refine w_ixT (SqT.of (kn.t 1 rfl)) atI_0 ?_
          walk_at "wp"
          refine w_ixL (SqL.of (kn.l 1 rfl)) edr ?_
          walk_at "wp"
          have es1 : hObsM As hues = oa ++ (hTri AA XX ++ ob) := es1
          rw [es1] at kn
          have kn0 := kn.perm (perm_tri [_, _, _, _, _, _] [] oa ob)
          refine ⟨AA, XX, cl, C.size, (hn : Int), C.bank.length, i, rfl, rfl, rfl, hs2.1, hs2.2, hb2, hio, hXok, (kn0.anew.imp (S := fun _ => True) mono_true fun _ => trivial).noT, fun H3 kn' => ?_⟩
          have kn2 := kn0.trans kn' (fun b hb => hb)
          have kn3 := kn2.perm (perm_tri [_, _, _, _, _, _] [] oa ob).symm
          have e2 := es2 (doneP C.size XX i)
          have kn3 : Kn H [] [] H3 ((W.wd, .dK (zipK wK [.ref W.hl, .ref W.rw, .ref W.wn, .ref W.lf, .int ((p : Int) + 1), .str state, .int (steps + 1), .int own, .int settles, .bl true, .ref W.sn])) :: (W.hl, .lst (dRefs As)) :: (W.rw, .lst (rs.map V.ref)) :: (W.wn, .lst (whens.map V.int)) :: (W.lf, .lst (left.map V.int)) :: (W.sn, .lst (seen.map V.ref)) :: (oa ++ (hTri AA (doneP C.size XX i) ++ ob))) [] _ := kn3
          rw [← e2] at kn3
          have kn := kn3
          walk_at "wp"
          refine w_kPut kn 0 rfl nd_w rfl 7 rfl rfl fun H4 kn => ?_
          walk_at "pm"
          exact tail _ ⟨row, left, (p : Int) + 1, state, steps + 1, true⟩ ⟨own + 1, settles, whens, seen, rs⟩ As H4 [] eR rfl lA (Nat.le_succ _) rfl (kn.imp (S := fun H => CodeAt H a C va ca ba as ∧ At H rs (row.map Row.its)) (fun _ _ t h => ⟨h.1.mono t, h.2.mono t⟩) fun h => h.1) rfl
        | _ =>
          refine w_ixT (SqT.of hb2) atI_0 ?_
          walk_at "wp"
          refine sett (fun j i z => by cases z) fun X2 S2 b E2 As2 H3 he hs3 hA2 hsn3 hw3 ho3 he3 kn => ?_
          obtain ⟨row2, left2, at2, state2, steps2, even2⟩ := S2
          obtain ⟨own2, settles2, whens2, seen2, rs2⟩ := E2
          have kn := kn
          unfold wObs at kn
          cases b with
          | true =>
            walk_at "wp"
            refine w_kPut kn 0 rfl nd_w rfl 8 rfl rfl fun H4 kn => ?_
            walk_at "pm"
            exact tail (List.replicate hues.length X2) ⟨row2, left2, at2, state2, steps2, even2⟩ ⟨own2, settles2 + 1, whens2, seen2, rs2⟩ As2 H4 [] he hs3 (by rw [hA2, gn]) hsn3 hw3 kn rfl
          | false =>
            walk_at "wp"
            refine w_kPut kn 0 rfl nd_w rfl 5 rfl rfl fun H4 kn => ?_
            walk_at "pm"
            exact tail (List.replicate hues.length X2) ⟨row2, left2, at2, "caught", steps2, even2⟩ ⟨own2, settles2, whens2, seen2, rs2⟩ As2 H4 [] he hs3 (by rw [hA2, gn]) hsn3 hw3 kn rfl
end
end Hue
set_option Elab.async false
set_option linter.all false
set_option maxRecDepth 100000
set_option maxHeartbeats 4000000
set_option autoImplicit false
namespace Hue
open PySem PySem.Spec PyProof.Rows L2
def N_law_weave_blocks : List Str := [("_law_cells" : Str), ("_law_cell" : Str), ("_law_goals_here" : Str), ("_law_found" : Str), ("_law_begin" : Str), ("_law_own" : Str), ("_law_at" : Str)]
theorem sc_law_weave_blocks : FnScope N_law_weave_blocks [("_law_cells" : Str)] (defScope s_law_weave_blocks) := ⟨rfl, rfl, rfl, by decide +kernel, rfl, by decide +kernel, by decide +kernel⟩
/-! ### the law's own blocks -/
structure LB where
  beg : Int
  own : List Ins
  last : Option Cell
structure LA where
  t : Addr
  ol : Addr
  cas : List Addr
  lv : V
abbrev WSt := List LB × Int × List Ins
def wKey (k : Int) (st : WSt) : WSt := (st.1 ++ [⟨st.2.1, st.2.2, none⟩], k, [])
def wCell (k : Int) (c : Cell) (st : WSt) : WSt := match c with
  | .ins _ i => (st.1, st.2.1, st.2.2 ++ [i])
  | c => (st.1 ++ [⟨st.2.1, st.2.2, some c⟩], k + 1, [])
def wStep (gs : List Int) (k : Int) (c : Cell) (st : WSt) : WSt := wCell k c (if k ∈ gs ∧ st.2.1 < k then wKey k st else st)
def runW (gs : List Int) : Int → List Cell → WSt → WSt
  | _, [], st => st
  | k, c :: cs, st => runW gs (k + 1) cs (wStep gs k c st)
def weaveBlocks (cs : List Cell) : List LB := (runW (goals cs) 0 cs ([], 0, [])).1 ++ (if (runW (goals cs) 0 cs ([], 0, [])).2.2 = [] then [] else [⟨(runW (goals cs) 0 cs ([], 0, [])).2.1, (runW (goals cs) 0 cs ([], 0, [])).2.2, none⟩])
structure LbT (H : Hp) (A : LA) (B : LB) : Prop where
  t : H A.t = some (.tup [.int B.beg, .ref A.ol, A.lv])
  c : At H A.cas (B.own.map fun i => (Cell.ins 0 i).its)
  s : SetAt H A.lv B.last
theorem LbT.mono {H H' : Hp} (t : TSub H H') {A : LA} {B : LB} (h : LbT H A B) : LbT H' A B := ⟨t _ _ h.t, h.c.mono t, h.s.mono t⟩
structure LbAt (H : Hp) (A : LA) (B : LB) : Prop where
  o : H A.ol = some (.lst (A.cas.map V.ref))
  t : LbT H A B
theorem LbAt.same {H H' : Hp} (s : Same H H') {A : LA} {B : LB} (h : LbAt H A B) : LbAt H' A B := ⟨s _ _ h.o, h.t.mono fun b xs e => s _ _ e⟩
structure WInv (H0 : Hp) (fo ol gl : Addr) (gs : List Int) (as : List Addr) (cs : List Cell) (n : Nat) (As : List LA) (cas : List Addr) (rest : Obs) (S : WSt) (H' : Hp) : Prop where
  la : As.length ≤ n
  lc : cas.length ≤ n
  mm : All2 (fun (A : LA) (_ : LB) => (A.ol, HO.lst (A.cas.map V.ref)) ∈ rest) As S.1
  kn : Kn H0 [] [] H' ((fo, .lst (As.map fun A : LA => V.ref A.t)) :: (ol, .lst (cas.map V.ref)) :: (gl, .lst (gs.map V.int)) :: rest) []
    (fun H => (At H as (cs.map Cell.its) ∧ At H cas (S.2.2.map fun i => (Cell.ins 0 i).its)) ∧ All2 (LbT H) As S.1)
theorem mono_w (as : List Addr) (cs : List Cell) (cas : List Addr) (is : List Ins) (As : List LA) (Bs : List LB) : Mono fun H => (At H as (cs.map Cell.its) ∧ At H cas (is.map fun i => (Cell.ins 0 i).its)) ∧ All2 (LbT H) As Bs :=
  ((At.mo _ _).and2 (At.mo _ _)).and2 fun _ _ t h => h.imp fun _ _ x => x.mono t
def rWBlocks : V → Hp → VK → XK → Prop := fun x H Q _ => ∃ (ca : Addr) (as : List Addr) (cs : List Cell), x = .ref ca ∧ H ca = some (.tup (as.map V.ref)) ∧ At H as (cs.map Cell.its) ∧ cs.length ≤ 4000 ∧ (∀ c ∈ cs, c.its.all okV = true) ∧ (∀ c ∈ cs, ∀ j i, c = .ins j i → j = 0) ∧
  ∀ (l : Addr) (As : List LA) (H' : Hp), Same H H' → H' l = some (.lst (As.map fun A : LA => V.ref A.t)) → All2 (LbAt H') As (weaveBlocks cs) → As.length ≤ 10000 → Q (.ref l) H'
theorem w_more {rest : Obs} {As : List LA} {Bs : List LB} (h : All2 (fun (A : LA) (_ : LB) => (A.ol, HO.lst (A.cas.map V.ref)) ∈ rest) As Bs) (A0 : LA) (B0 : LB) : All2 (fun (A : LA) (_ : LB) => (A.ol, HO.lst (A.cas.map V.ref)) ∈ (A0.ol, HO.lst (A0.cas.map V.ref)) :: rest) (As ++ [A0]) (Bs ++ [B0]) :=
  All2.snoc (P := fun (A : LA) (_ : LB) => (A.ol, HO.lst (A.cas.map V.ref)) ∈ (A0.ol, HO.lst (A0.cas.map V.ref)) :: rest) List.mem_cons_self (h.imp fun _ _ k => List.mem_cons_of_mem _ k)
theorem inV_ints : ∀ (ns : List Int) (k : Int), inV (.int k) (ns.map V.int) = decide (k ∈ ns)
  | [], k => (decide_eq_false (by simp)).symm
  | n :: ns, k => by
    have ih := inV_ints ns k
    have e : inV (.int k) (V.int n :: ns.map V.int) = (eqV (V.int n) (V.int k) || inV (.int k) (ns.map V.int)) := by
      unfold inV
      rw [List.any_cons]
    have e2 : eqV (V.int n) (V.int k) = (n == k) := rfl
    show inV (.int k) (V.int n :: ns.map V.int) = _
    rw [e, ih, e2]
    by_cases h : n = k
    · subst h
      simp
    · have h2 : ¬ k = n := fun z => h z.symm
      simp [h, h2]
section
variable {P : Program} {w : World} {K : PySem.W.Frag} {mg : Str → Option Value} {base : Heap}
theorem ok_law_weave_blocks (D : DefAt K mg "_law_weave_blocks" s_law_weave_blocks) (T : Txt K mg) : Cal P w K mg base CX0 1 "_law_weave_blocks" [("_law_cells" : Str)] (Sp1 rWBlocks) := by
  refine cal_of D sc_law_weave_blocks (fun _ _ _ _ _ _ us hl => match us, hl with | [_], _ => rfl) (fun vs H Q E h => ?_) (fun f cdv A outer s H vs Q E hr h => ⟨_, PSs.nox ((pss_cons (ps_setLc (i := 2) (own := [("_law_cell", 1)]) rfl sc_law_weave_blocks.nd rfl rfl (sw_true rfl rfl rfl (by decide +kernel)) (pi_tupK (K := K) (pv 0)) (blkOk_by (own := [("_law_cell", 1)]) (N := N_law_weave_blocks) (sc := defScope s_law_weave_blocks) (by decide +kernel)) (fun _ _ _ _ _ => (pg_name (i := 1) sc_law_weave_blocks.nd rfl (by first | exact Or.inl rfl | exact Or.inr rfl))) (fun _ _ _ _ _ => by exact (pts_one (pt_cmpR (op_inK (K := K)) (pe_ix (ix_tupK (K := K)) (pv 1) pe_int (fun _ _ => rfl)) (pe_lst (pa_cons pe_str (pa_cons pe_str pa_nil))) (by rfl)))) (fun _ _ _ _ _ => by exact (pe_ix (ix_tupK (K := K)) (pv 1) pe_int (fun _ _ => rfl))))
      (pss_cons (ps_par3 (i := 3) (j := 4) (l := 5) (by rfl) sc_law_weave_blocks.nd rfl rfl rfl (by decide) (by decide) (by decide) rfl rfl rfl (pa_cons (pe_lst pa_nil) (pa_cons pe_int (pa_cons (pe_lst pa_nil) pa_nil))) (by rfl))
      (pss_cons (ps_for PassesOwn.never rfl (pi_enumT0 (by rfl) T.b_enumerate (pa_cons (pv 0) pa_nil)) (pg_tupK (K := K) (n := 2) rfl (pgs_cons (pg_name (i := 6) sc_law_weave_blocks.nd rfl (Or.inl rfl)) (pgs_cons (pg_name (i := 1) sc_law_weave_blocks.nd rfl (Or.inl rfl)) pgs_nil))) (C8.pss_cut (ps_if (PW.pt (pw_and (pt_cmpR (op_inK (K := K)) (pv 6) (pv 2) (by rfl)) (pw_and1 (pt_cmpR op_gt (pv 6) (pv 4) (nomark _))))) (pss_cons (ps_expr (pe_bmK (K := K) PySem.F.plainAttrs_list PySem.F.slot_list_append PySem.F.type_list_append mt_append (pv 3) (pa_cons (pe_tup (pa_cons (pv 4) (pa_cons (pv 5) (pa_cons pe_non pa_nil)))) pa_nil)))
      (pss_one (ps_par (i := 4) (j := 5) (by rfl) sc_law_weave_blocks.nd rfl rfl (by decide) rfl rfl (pa_cons (pv 6) (pa_cons (pe_lst pa_nil) pa_nil)) (by rfl)))) pss_nil)
      (pss_one (ps_if (pt_val (pe_callB (cr_isiK (K := K)) (by rfl) T.b_isinstance (by decide +kernel) (pa_cons (pe_ix (ix_tupK (K := K)) (pv 1) pe_int (fun _ _ => rfl)) (pa_cons (pe_bltn (v := .ty "int") (by rfl) T.b_int (by decide +kernel) rfl) pa_nil)))) (pss_one (ps_set (i := 5) sc_law_weave_blocks.nd rfl (Or.inl rfl) (pe_op op_cat (pv 5) (pe_lst (pa_cons (pv 1) pa_nil))))) (pss_cons (ps_expr (pe_bmK (K := K) PySem.F.plainAttrs_list PySem.F.slot_list_append PySem.F.type_list_append mt_append (pv 3) (pa_cons (pe_tup (pa_cons (pv 4) (pa_cons (pv 5) (pa_cons (pv 1) pa_nil)))) pa_nil)))
      (pss_one (ps_par (i := 4) (j := 5) (by rfl) sc_law_weave_blocks.nd rfl rfl (by decide) rfl rfl (pa_cons (pe_op op_add (pv 6) pe_int) (pa_cons (pe_lst pa_nil) pa_nil)) (by rfl))))))))
      (pss_one (ps_ret (pe_op op_cat (pv 3) (pe_ifExp (pt_cmpR (op_neDK (K := K) hr.units) (pv 5) (pe_lst pa_nil) (nomark _)) (pe_lst (pa_cons (pe_tup (pa_cons (pv 4) (pa_cons (pv 5) (pa_cons pe_non pa_nil)))) pa_nil)) (pe_lst pa_nil))))))))), ?_⟩)
  · obtain ⟨a, rfl, _⟩ := h
    rfl
  · obtain ⟨x, rfl, ca, as, cs, rfl, hca, hat, hln, hok, hz, q⟩ := h
    have kn := (Kn.start1 hca).imp (At.mo as (cs.map Cell.its)) fun _ => hat
    have las : as.length = cs.length := by
      have := hat.len
      simpa using this
    walk_at "wp"
    refine w_lcT kn (SqT.of (kn.t 0 rfl)) (fun D i H' => Kn H [] [] H' [(D, .lst ((goals (cs.take i)).map V.int))] [(ca, as.map V.ref)] (fun H => At H as (cs.map Cell.its))) (fun D H' kn => kn) (fun D i H' _ kn => SqT.of (kn.t 0 rfl)) (fun D i x H' hx hi kn => ?_) (fun gl H' kn => ?_)
    · obtain ⟨b, eb, rfl⟩ := At.refs hx
      obtain ⟨its, e1, hb⟩ := kn.pp.get' eb
      rw [List.getElem?_map] at e1
      obtain ⟨cc, ec, rfl⟩ := Option.map_eq_some_iff.mp e1
      rw [List.length_map, las] at hi
      have lg : (goals (cs.take i)).length ≤ 4000 := by
        refine Nat.le_trans (List.length_filterMap_le _ _) ?_
        rw [List.length_take]
        omega
      rw [goals_take ec]
      have hb2 : ∀ {H2 : Hp}, At H2 as (cs.map Cell.its) → H2 b = some (.tup cc.its) := fun {H2} h => by
        obtain ⟨its, e1, h2⟩ := h.get' eb
        rw [List.getElem?_map, ec] at e1
        rw [h2, ← Option.some.inj e1]
      have same : ∀ {H2 : Hp}, Kn H [] [] H2 [(D, .lst ((goals (cs.take i)).map V.int))] [(ca, as.map V.ref)] (fun H => At H as (cs.map Cell.its)) → Kn H [] [] H2 [(D, .lst ((goals (cs.take i) ++ []).map V.int))] [(ca, as.map V.ref)] (fun H => At H as (cs.map Cell.its)) := fun {H2} kn => by
        rw [List.append_nil]
        exact kn
      walk_at "wp"
      cases cc with
      | turn g wd =>
        refine w_ixT (SqT.of hb) (atI_0 (v := .str "turn")) ?_
        walk_at "wp"
        refine w_kLst kn rfl fun o H2 kn => ?_
        have hb2 := hb2 kn.pp
        walk_at "wp"
        refine w_in (k := true) (.inl (SqL.of (kn.l 0 rfl))) rfl rfl (by decide +kernel) ?_
        have kn := kn.drop
        walk_at "wp"
        refine w_kAcc kn 0 rfl (by rw [List.length_map]; omega) fun H3 kn => ?_
        rw [map_snoc] at kn
        exact kn
      | goto g =>
        refine w_ixT (SqT.of hb) (atI_0 (v := .str "goto")) ?_
        walk_at "wp"
        refine w_kLst kn rfl fun o H2 kn => ?_
        have hb2 := hb2 kn.pp
        walk_at "wp"
        refine w_in (k := true) (.inl (SqL.of (kn.l 0 rfl))) rfl rfl (by decide +kernel) ?_
        have kn := kn.drop
        walk_at "wp"
        refine w_kAcc kn 0 rfl (by rw [List.length_map]; omega) fun H3 kn => ?_
        rw [map_snoc] at kn
        exact kn
      | ins j ii =>
        refine w_ixT (SqT.of hb) (atI_0 (v := .int j)) ?_
        walk_at "wp"
        refine w_kLst kn rfl fun o H2 kn => ?_
        walk_at "wp"
        refine w_in (k := false) (.inl (SqL.of (kn.l 0 rfl))) rfl rfl (by rfl) ?_
        have kn := kn.drop
        walk_at "wp"
        exact same kn
      | shw p wd =>
        refine w_ixT (SqT.of hb) (atI_0 (v := .str "show")) ?_
        walk_at "wp"
        refine w_kLst kn rfl fun o H2 kn => ?_
        walk_at "wp"
        refine w_in (k := false) (.inl (SqL.of (kn.l 0 rfl))) rfl rfl (by decide +kernel) ?_
        have kn := kn.drop
        walk_at "wp"
        exact same kn
      | take p wd =>
        refine w_ixT (SqT.of hb) (atI_0 (v := .str "take")) ?_
        walk_at "wp"
        refine w_kLst kn rfl fun o H2 kn => ?_
        walk_at "wp"
        refine w_in (k := false) (.inl (SqL.of (kn.l 0 rfl))) rfl rfl (by decide +kernel) ?_
        have kn := kn.drop
        walk_at "wp"
        exact same kn
      | stop =>
        refine w_ixT (SqT.of hb) (atI_0 (v := .str "stop")) ?_
        walk_at "wp"
        refine w_kLst kn rfl fun o H2 kn => ?_
        walk_at "wp"
        refine w_in (k := false) (.inl (SqL.of (kn.l 0 rfl))) rfl rfl (by decide +kernel) ?_
        have kn := kn.drop
        walk_at "wp"
        exact same kn
      | mark =>
        refine w_ixT (SqT.of hb) (atI_0 (v := .str "mark")) ?_
        walk_at "wp"
        refine w_kLst kn rfl fun o H2 kn => ?_
        walk_at "wp"
        refine w_in (k := false) (.inl (SqL.of (kn.l 0 rfl))) rfl rfl (by decide +kernel) ?_
        have kn := kn.drop
        walk_at "wp"
        exact same kn
    · rw [List.length_map, las, List.take_length] at kn
      walk_at "wp"
      refine w_kLst kn rfl fun fo H2 kn => ?_
      walk_at "wp"
      refine w_kLst kn rfl fun ol H3 kn => ?_
      have kn := kn.pmn 3 [1, 0, 2] (by decide) (by decide)
      walk_at "pm"
      walk_at "wp"
      refine w_forEn (SqT.of (kn.t 0 rfl)) (fun i σ' H' => ∃ (a1 a6 : Option V) (S : WSt) (As : List LA) (ol : Addr) (cas : List Addr) (rest : Obs), σ' = [some (.ref ca), a1, some (.ref gl), some (.ref fo), some (.int S.2.1), some (.ref ol), a6] ∧ runW (goals cs) i (cs.drop i) S = runW (goals cs) 0 cs ([], 0, []) ∧ (∀ j ∈ S.2.2, j.its.all okV = true) ∧ WInv H fo ol gl (goals cs) as cs (2 * i) As cas rest S H')
        ⟨none, none, ([], 0, []), [], ol, [], [], rfl, rfl, (fun j hj => by cases hj), Nat.zero_le _, Nat.zero_le _, .nil, (kn.imp (mono_w as cs [] [] [] []) fun h => ⟨⟨h, .nil⟩, .nil⟩).noT⟩ (fun i σ' H' _ hp => ?_) (fun i x σ' H' p hx hi hp hp0 => ?_) (fun σ' H' hp => ?_)
      · obtain ⟨_, _, _, _, _, _, _, _, _, _, I⟩ := hp
        exact SqT.of (I.kn.fr.toSame _ _ hca)
      · obtain ⟨a1, a6, S, As, ol, cas, rest, rfl, hrun, hov, I⟩ := hp
        rw [List.length_map, las] at hi
        obtain ⟨bc, ebc, rfl⟩ := At.refs hx
        obtain ⟨its, e1, hbc⟩ := I.kn.pp.1.1.get' ebc
        rw [List.getElem?_map] at e1
        obtain ⟨cc, ec, rfl⟩ := Option.map_eq_some_iff.mp e1
        have hcok := hok cc (List.mem_of_getElem? ec)
        have hcz := hz cc (List.mem_of_getElem? ec)
        have hd : cs.drop i = cc :: cs.drop (i + 1) := by
          rw [List.drop_eq_getElem_cons hi]
          rw [(List.getElem?_eq_some_iff.mp ec).2]
        rw [hd] at hrun
        have kn := I.kn.tup [.int (i : Int), .ref bc] hp0
        have hmo : TSub H' (upd H' p (.tup [.int (i : Int), .ref bc])) := tsub_upd_new hp0
        have hbc := hmo _ _ hbc
        have ila := I.la
        have ilc := I.lc
        have imm := I.mm
        have kn := kn.tps (T' := [(p, [.int (i : Int), .ref bc])]) (fun q hq => by
          have e : q = (p, [V.int (i : Int), .ref bc]) := by simpa using hq
          rw [e]
          exact kn.t 0 rfl)
        generalize upd H' p (.tup [.int (i : Int), .ref bc]) = H5 at kn hbc
        walk_at "wp"
        refine ⟨fun σ' H' => ∃ (As : List LA) (ol : Addr) (cas : List Addr) (rest : Obs) (S2 : WSt), S2 = (if (i : Int) ∈ goals cs ∧ S.2.1 < (i : Int) then wKey i S else S) ∧ σ' = [some (.ref ca), some (.ref bc), some (.ref gl), some (.ref fo), some (.int S2.2.1), some (.ref ol), some (.int (i : Int))] ∧ H' bc = some (.tup cc.its) ∧ (∀ j ∈ S2.2.2, j.its.all okV = true) ∧ WInv H fo ol gl (goals cs) as cs (2 * i + 1) As cas rest S2 H', ?_, fun σ' H' hm => ?_⟩
        · walk_at "wp"
          refine w_in (.inl (SqL.of (kn.l 2 rfl))) rfl (flat_ints _) (show (if false = true then _ else inV (.int (i : Int)) ((goals cs).map V.int)) = decide ((i : Int) ∈ goals cs) from inV_ints _ _) ?_
          walk_at "wp"
          have keep : ¬ ((i : Int) ∈ goals cs ∧ S.2.1 < (i : Int)) → ∃ (As : List LA) (ol2 : Addr) (cas : List Addr) (rest : Obs) (S2 : WSt), S2 = (if (i : Int) ∈ goals cs ∧ S.2.1 < (i : Int) then wKey i S else S) ∧ [some (V.ref ca), some (.ref bc), some (.ref gl), some (.ref fo), some (.int S.2.1), some (.ref ol), some (.int (i : Int))] = [some (.ref ca), some (.ref bc), some (.ref gl), some (.ref fo), some (.int S2.2.1), some (.ref ol2), some (.int (i : Int))] ∧ H5 bc = some (.tup cc.its) ∧ (∀ j ∈ S2.2.2, j.its.all okV = true) ∧ WInv H fo ol2 gl (goals cs) as cs (2 * i + 1) As cas rest S2 H5 := fun hn =>
            ⟨As, ol, cas, rest, S, (if_neg hn).symm, rfl, hbc, hov, Nat.le_succ_of_le ila, Nat.le_succ_of_le ilc, imm, kn.noT⟩
          refine kIf_d (fun e => ?_) fun e => ?_
          · walk_at "wp"
            refine kIf_d (fun e2 => ?_) fun e2 => ?_
            · have e2 : S.2.1 < (i : Int) := e2
              walk_at "wp"
              refine w_kTup kn rfl fun t H6 kn => ?_
              walk_at "wp"
              refine w_append kn 0 rfl (by rw [List.length_map]; omega) fun H7 kn => ?_
              walk_at "pm"
              walk_at "wp"
              refine w_kLst kn rfl fun ol2 H8 kn => ?_
              have kn := kn.pmn 4 [1, 0, 3, 2] (by decide) (by decide)
              walk_at "pm"
              walk_at "wp"
              have ht := kn.t 0 rfl
              refine ⟨As ++ [⟨t, ol, cas, .non⟩], ol2, [], (ol, .lst (cas.map V.ref)) :: rest, wKey i S, (if_pos ⟨e, e2⟩).symm, rfl, kn.fr.tup _ _ (by
                obtain ⟨its, e1, h2⟩ := hat.get' ebc
                rw [List.getElem?_map, ec] at e1
                rw [h2, ← Option.some.inj e1]), (fun j hj => by cases hj), by rw [List.length_append]; show As.length + 1 ≤ _; omega, Nat.zero_le _, w_more imm ⟨t, ol, cas, .non⟩ _, ?_⟩
              have kn := (kn.imp (mono_w as cs [] [] (As ++ [⟨t, ol, cas, .non⟩]) (S.1 ++ [⟨S.2.1, S.2.2, none⟩])) fun h => ⟨⟨h.1.1, .nil⟩, h.2.snoc ⟨ht, h.1.2, rfl⟩⟩).noT
              rw [List.map_append]
              exact kn
            · walk_at "wp"
              exact keep fun z => e2 z.2
          · walk_at "wp"
            exact keep fun z => e z.1
        · obtain ⟨As, ol, cas, rest, S2, e2, rfl, hbc, hov, I⟩ := hm
          have hrun : runW (goals cs) ((i + 1 : Nat) : Int) (cs.drop (i + 1)) (wCell i cc S2) = runW (goals cs) 0 cs ([], 0, []) := by
            rw [← hrun, e2]
            show _ = runW (goals cs) ((i : Int) + 1) _ _
            have e : ((i + 1 : Nat) : Int) = (i : Int) + 1 := by omega
            rw [e] <;> rfl
          have kn := I.kn
          have ila := I.la
          have ilc := I.lc
          have imm := I.mm
          have hcell : ∀ {H2 : Hp}, At H2 as (cs.map Cell.its) → H2 bc = some (.tup cc.its) := fun {H2} h => by
            obtain ⟨its, e1, h2⟩ := h.get' ebc
            rw [List.getElem?_map, ec] at e1
            rw [h2, ← Option.some.inj e1]
          walk_at "wp"
          cases cc with
          | ins j ii =>
            have hj : j = 0 := hcz j ii rfl
            subst hj
            refine w_ixT (SqT.of hbc) (atI_0 (v := .int 0)) ?_
            walk_at "wp"
            refine w_kLst kn rfl fun o H6 kn => ?_
            refine w_cat kn (kn.l 2 rfl) (kn.l 0 rfl) (by rw [List.length_map]; show cas.length + 1 ≤ _; omega) fun r H7 kn => ?_
            have kn := kn.pmn 5 [2, 0, 4] (by decide) (by decide)
            walk_at "pm"
            walk_at "wp"
            have hb7 : H7 bc = some (.tup (Cell.ins 0 ii).its) := by
              obtain ⟨its, e1, h2⟩ := kn.pp.1.1.get' ebc
              rw [List.getElem?_map, ec] at e1
              rw [h2, ← Option.some.inj e1]
            have er : cas.map V.ref ++ [V.ref bc] = (cas ++ [bc]).map V.ref := by rw [List.map_append] <;> rfl
            rw [er] at kn
            refine ⟨_, _, (S2.1, S2.2.1, S2.2.2 ++ [ii]), As, r, cas ++ [bc], rest, rfl, hrun, fun j hj => ?_, Nat.le_succ_of_le ila, by rw [List.length_append]; show cas.length + 1 ≤ _; omega, imm, kn.imp (mono_w as cs (cas ++ [bc]) (S2.2.2 ++ [ii]) As S2.1) fun h => ⟨⟨h.1.1, ?_⟩, h.2⟩⟩
            · rcases List.mem_append.mp hj with hj | hj
              · exact hov j hj
              · have e : j = ii := by simpa using hj
                rw [e]
                exact hcok
            · rw [List.map_append]
              exact h.1.2.app (.one hb7)
          | _ =>
            refine w_ixT (SqT.of hbc) atI_0 ?_
            walk_at "wp"
            refine w_kTup kn rfl fun t H6 kn => ?_
            walk_at "wp"
            refine w_append kn 0 rfl (by rw [List.length_map]; omega) fun H7 kn => ?_
            walk_at "pm"
            walk_at "wp"
            refine w_kLst kn rfl fun ol2 H8 kn => ?_
            have kn := kn.pmn 4 [1, 0, 3, 2] (by decide) (by decide)
            walk_at "pm"
            walk_at "wp"
            have ht := kn.t 0 rfl
            have hb8 := hcell kn.pp.1.1
            refine ⟨_, _, (_, (i : Int) + 1, []), As ++ [⟨t, ol, cas, .ref bc⟩], ol2, [], (ol, .lst (cas.map V.ref)) :: rest, rfl, hrun, (fun j hj => by cases hj), by rw [List.length_append]; show As.length + 1 ≤ _; omega, Nat.zero_le _, w_more imm ⟨t, ol, cas, .ref bc⟩ _, ?_⟩
            have kn := (kn.imp (mono_w as cs [] [] (As ++ [⟨t, ol, cas, .ref bc⟩]) (S2.1 ++ [⟨S2.2.1, S2.2.2, some _⟩])) fun h => ⟨⟨h.1.1, .nil⟩, h.2.snoc ⟨ht, h.1.2, bc, rfl, hb8⟩⟩).noT
            rw [List.map_append]
            exact kn
      · obtain ⟨a1, a6, S, As, ol, cas, rest, rfl, hrun, hov, I⟩ := hp
        rw [List.length_map, las] at hrun I
        rw [List.drop_length] at hrun
        have hr : runW (goals cs) 0 cs ([], 0, []) = S := hrun.symm
        have kn := I.kn
        have ila := I.la
        have okt : ∀ xs ∈ S.2.2.map (fun i => (Cell.ins 0 i).its), xs.all okV = true := fun xs hx => by
          obtain ⟨j, hj, rfl⟩ := List.mem_map.mp hx
          exact hov j hj
        have lcs : cas.length = S.2.2.length := by
          have := kn.pp.1.2.len
          simpa using this
        walk_at "wp"
        refine w_kLst kn rfl fun o H6 kn => ?_
        refine w_neE (SqL.of (kn.l 2 rfl)) (At.dp kn.pp.1.2 okt) (n := 1) (.tD okt) (by decide) (SqL.of (kn.l 0 rfl)) ?_
        have kn := kn.drop
        rw [isEmpty_map, isEmpty_len lcs]
        have base : ∀ {H7 : Hp} {L2 : Obs} {TT : Tps} {PP : Hp → Prop}, Kn H [] [] H7 ((fo, .lst (As.map fun A : LA => V.ref A.t)) :: (ol, .lst (cas.map V.ref)) :: (gl, .lst ((goals cs).map V.int)) :: rest) TT (fun H => (At H as (cs.map Cell.its) ∧ At H cas (S.2.2.map fun i => (Cell.ins 0 i).its)) ∧ All2 (LbT H) As S.1) → All2 (LbAt H7) As S.1 := fun {H7 L2 TT PP} kn =>
          ((I.mm.and kn.pp.2).imp fun A B h => ⟨kn.ats _ (List.mem_cons_of_mem _ (List.mem_cons_of_mem _ (List.mem_cons_of_mem _ h.1))), h.2⟩)
        cases eo : S.2.2 with
        | nil =>
          have eW : weaveBlocks cs = S.1 := by
            unfold weaveBlocks
            rw [hr, if_pos eo, List.append_nil]
          rw [eo] at kn lcs
          walk_at "wp"
          refine w_kLst kn rfl fun o2 H7 kn => ?_
          refine w_cat kn (kn.l 1 rfl) (kn.l 0 rfl) (by rw [List.length_map]; show As.length + 0 ≤ _; omega) fun r H8 kn => ?_
          have hl := kn.l 0 rfl
          rw [List.append_nil] at hl
          have kn2 := kn.drop.drop
          rw [← eo] at kn2
          exact q r As H8 kn.fr.toSame hl (by rw [eW]; exact base (L2 := []) (PP := fun _ => True) kn2) (by omega)
        | cons i0 is0 =>
          have eW : weaveBlocks cs = S.1 ++ [⟨S.2.1, S.2.2, none⟩] := by
            unfold weaveBlocks
            rw [hr, if_neg (by rw [eo]; intro z; cases z)]
          rw [eo] at kn
          walk_at "wp"
          refine w_kTup kn rfl fun t H7 kn => ?_
          walk_at "wp"
          refine w_kLst kn rfl fun o2 H8 kn => ?_
          refine w_cat kn (kn.l 1 rfl) (kn.l 0 rfl) (by rw [List.length_map]; show As.length + 1 ≤ _; omega) fun r H9 kn => ?_
          have hl := kn.l 0 rfl
          have ht := kn.t 0 rfl
          have hol := kn.l 3 rfl
          have er : (As.map fun A : LA => V.ref A.t) ++ [V.ref t] = (As ++ [(⟨t, ol, cas, .non⟩ : LA)]).map fun A : LA => V.ref A.t := by rw [List.map_append] <;> rfl
          rw [er] at hl
          have kn2 := kn.drop.drop
          rw [← eo] at kn2
          exact q r (As ++ [⟨t, ol, cas, .non⟩]) H9 kn.fr.toSame hl (by
            rw [eW]
            exact (base (L2 := []) (PP := fun _ => True) kn2).snoc ⟨hol, ht, kn2.pp.1.2, rfl⟩) (by rw [List.length_append]; show As.length + 1 ≤ _; omega)
end
end Hue
set_option Elab.async false
set_option linter.all false
set_option maxRecDepth 100000
set_option maxHeartbeats 4000000
set_option autoImplicit false
namespace Hue
open PySem PySem.Spec PyProof.Rows L2
def N_law_weave_widened : List Str := [("_law_code" : Str), ("_law_votes_here_here" : Str), ("_law_hues_here" : Str), ("_law_spots_here" : Str), ("_law_at" : Str), ("_law_blocks_here" : Str), ("_law_begin" : Str), ("_law_own" : Str), ("_law_last" : Str), ("_law_cells" : Str), ("_law_hue" : Str), ("_law_cell" : Str)]
theorem sc_law_weave_widened : FnScope N_law_weave_widened [("_law_code" : Str), ("_law_votes_here_here" : Str)] (defScope s_law_weave_widened) := ⟨rfl, rfl, rfl, by decide +kernel, rfl, by decide +kernel, by decide +kernel⟩
def LB.many (B : LB) (h : Int) : Int := h * B.own.length + (if B.last.isSome then 1 else 0)
def spotsW (h : Int) : List LB → Int → List (Key × V) → List (Key × V)
  | [], _, kvs => kvs
  | B :: Bs, at_, kvs => spotsW h Bs (at_ + B.many h) (putK kvs (Sum.inl B.beg : Key) (.int at_))
def spW (h : Int) (Bs : List LB) (g : Int) : Int := match valV (spotsW h Bs 0 []) (Sum.inl g : Key) with
  | some (.int n) => n
  | _ => 0
def laidW (sp : Int → Int) (h : Nat) (B : LB) : List Cell := flush h B.own ++ (match B.last with
  | none => []
  | some c => [led sp h c])
def layW (h : Nat) (Bs : List LB) : List Cell := Bs.flatMap (laidW (spW h Bs) h)
structure WLayOk (h : Nat) (Bs : List LB) : Prop where
  o : ∀ B ∈ Bs, B.own.length ≤ 4000
  l : (layW h Bs).length ≤ 10000
  s : ∀ B ∈ Bs, ∀ c, B.last = some c → (∀ j i, c ≠ .ins j i) ∧ ∀ g, c.goal? = some g → ∃ n, valV (spotsW h Bs 0 []) (Sum.inl g : Key) = some (.int n)
def rWWide : V → V → Hp → VK → XK → Prop := fun x y H Q _ => ∃ (a va : Addr) (C : Code) (vs : List Int), x = .ref a ∧ y = .ref va ∧ IsCode H a C ∧ C.Ok ∧ (∀ c ∈ C.cells, ∀ j i, c = .ins j i → j = 0) ∧ H va = some (.tup (vs.map V.int)) ∧ VotesOk vs ∧ WLayOk vs.length (weaveBlocks C.cells) ∧
  ∀ r H', Same H H' → IsCode H' r ⟨vs, C.size, layW vs.length (weaveBlocks C.cells), C.bank⟩ → Q (.ref r) H'
theorem la_get {As : List LA} {i : Nat} {x : V} (h : (As.map fun A : LA => V.ref A.t)[i]? = some x) : ∃ A, As[i]? = some A ∧ x = .ref A.t := by
  rw [List.getElem?_map] at h
  obtain ⟨A, e1, e2⟩ := Option.map_eq_some_iff.mp h
  exact ⟨A, e1, e2.symm⟩
section
variable {P : Program} {w : World} {K : PySem.W.Frag} {mg : Str → Option Value} {base : Heap}
theorem ok_law_weave_widened (D : DefAt K mg "_law_weave_widened" s_law_weave_widened) (T : Txt K mg) (C_law_weave_blocks : Cal P w K mg base CX0 1 "_law_weave_blocks" [("_law_cells" : Str)] (Sp1 rWBlocks)) :
    Cal P w K mg base CX0 2 "_law_weave_widened" [("_law_code" : Str), ("_law_votes_here_here" : Str)] (Sp2 rWWide) := by
  refine cal_of D sc_law_weave_widened (fun _ _ _ _ _ _ us hl => match us, hl with | [_, _], _ => rfl) (fun vs H Q E h => ?_) (fun f cdv A outer s H vs Q E hr h => ⟨_, PSs.nox ((pss_cons (ps_par3 (i := 2) (j := 3) (l := 4) (by rfl) sc_law_weave_widened.nd rfl rfl rfl (by decide) (by decide) (by decide) rfl rfl rfl (pa_cons (pe_callB (cr_lenK (K := K)) (by rfl) T.b_len (by decide +kernel) (pa_cons (pv 1) pa_nil)) (pa_cons pe_dnewK (pa_cons pe_int pa_nil))) (by rfl))
      (pss_cons (ps_set (i := 5) sc_law_weave_widened.nd rfl (Or.inl rfl) (pe_cl C_law_weave_blocks hr (by decide) pass0 rfl (pa_cons (pe_ix (ix_tupK (K := K)) (pv 0) pe_int (fun _ _ => rfl)) pa_nil)))
      (pss_cons (ps_for PassesOwn.never rfl (pi_listK (K := K) (pv 5)) (pg_tupK (K := K) (n := 3) rfl (pgs_cons (pg_name (i := 6) sc_law_weave_widened.nd rfl (Or.inl rfl)) (pgs_cons (pg_name (i := 7) sc_law_weave_widened.nd rfl (Or.inl rfl)) (pgs_cons (pg_name (i := 8) sc_law_weave_widened.nd rfl (Or.inl rfl)) pgs_nil)))) (pss_cons (ps_dput (hu_of hr) (pv 3) (pv 6) (pv 4) rfl)
      (pss_one (ps_set (i := 4) sc_law_weave_widened.nd rfl (Or.inl rfl) (pe_op op_add (pe_op op_add (pv 4) (pe_op op_mul (pv 2) (pe_callB (cr_lenK (K := K)) (by rfl) T.b_len (by decide +kernel) (pa_cons (pv 7) pa_nil)))) (pe_callTy cr_int (by rfl) T.b_int (by decide +kernel) (pa_cons (pe_cmpR op_notN1 (pv 8) pe_non (nomark _)) pa_nil)))))))
      (pss_cons (ps_set (i := 9) sc_law_weave_widened.nd rfl (Or.inl rfl) (pe_lst pa_nil))
      (pss_cons (ps_for PassesOwn.never rfl (pi_listK (K := K) (pv 5)) (pg_tupK (K := K) (n := 3) rfl (pgs_cons (pg_name (i := 6) sc_law_weave_widened.nd rfl (Or.inl rfl)) (pgs_cons (pg_name (i := 7) sc_law_weave_widened.nd rfl (Or.inl rfl)) (pgs_cons (pg_name (i := 8) sc_law_weave_widened.nd rfl (Or.inl rfl)) pgs_nil)))) (pss_cons (ps_for PassesOwn.never rfl (pi_range1 rfl T.b_range (pa_cons (pv 2) pa_nil)) (pg_name (i := 10) sc_law_weave_widened.nd rfl (Or.inr rfl)) (pss_one (ps_set (i := 9) sc_law_weave_widened.nd rfl (Or.inl rfl) (pe_op op_cat (pv 9) (pe_lc (own := [("_law_cell", 11)]) rfl sc_law_weave_widened.nd (pi_listK (K := K) (pv 7)) (blkOk_by (own := [("_law_cell", 11)]) (N := N_law_weave_widened) (sc := defScope s_law_weave_widened) (by decide +kernel)) (fun _ _ _ _ _ => (pg_name (i := 11) sc_law_weave_widened.nd rfl (by first | exact Or.inl rfl | exact Or.inr rfl))) (fun _ _ _ _ _ => pts_nil) (fun _ _ _ _ _ => by exact (pe_op (op_catAK (K := K)) (pe_tup (pa_cons (pv 10) pa_nil)) (pe_slice (sl_tupK (K := K)) (pv 11) (po_some pe_int) po_none))))))))
      (pss_one (ps_if (PW.pt (pw_and (pt_cmpR op_notN1 (pv 8) pe_non (nomark _)) (pw_and1 (pt_cmpR (op_inK (K := K)) (pe_ix (ix_tupK (K := K)) (pv 8) pe_int (fun _ _ => rfl)) (pe_lst (pa_cons pe_str (pa_cons pe_str pa_nil))) (by rfl))))) (pss_one (ps_expr (pe_bmK (K := K) PySem.F.plainAttrs_list PySem.F.slot_list_append PySem.F.type_list_append mt_append (pv 9) (pa_cons (pe_op (op_catAK (K := K)) (pe_tup (pa_cons (pe_ix (ix_tupK (K := K)) (pv 8) pe_int (fun _ _ => rfl)) (pa_cons (pe_dget (hu_of hr) (pv 3) (pe_ix (ix_tupK (K := K)) (pv 8) pe_int (fun _ _ => rfl)) (fun _ _ => rfl)) pa_nil))) (pe_op (op_repA (K := K)) (pe_tup (pa_cons (pv 2) pa_nil)) (pe_op op_sub (pe_callB (cr_lenK (K := K)) (by rfl) T.b_len (by decide +kernel) (pa_cons (pv 8) pa_nil)) pe_int))) pa_nil)))) (pss_one (ps_if (pt_cmpR op_notN1 (pv 8) pe_non (nomark _)) (pss_one (ps_expr (pe_bmK (K := K) PySem.F.plainAttrs_list PySem.F.slot_list_append PySem.F.type_list_append mt_append (pv 9) (pa_cons (pe_ifExp (pt_cmpR op_eq (pe_callB (cr_lenK (K := K)) (by rfl) T.b_len (by decide +kernel) (pa_cons (pv 8) pa_nil)) pe_int (nomark _)) (pe_op (op_catAK (K := K)) (pe_slice (sl_tupK (K := K)) (pv 8) po_none (po_some pe_int)) (pe_tup (pa_cons (pv 2) pa_nil))) (pv 8)) pa_nil)))) pss_nil))))))
      (pss_one (ps_ret (pe_tup (pa_cons (pv 1) (pa_cons (pe_ix (ix_tupK (K := K)) (pv 0) pe_int (fun _ _ => rfl)) (pa_cons (pe_callTy (cr_tupK (K := K)) (by rfl) T.b_tuple (by decide +kernel) (pa_cons (pv 9) pa_nil)) (pa_cons (pe_ix (ix_tupK (K := K)) (pv 0) pe_int (fun _ _ => rfl)) pa_nil))))))))))))), ?_⟩)
  · obtain ⟨a, b, rfl, _⟩ := h
    rfl
  · obtain ⟨x, y, rfl, a, va, C, vs, rfl, rfl, hC, hok, hz, hva, hvo, hL, q⟩ := h
    obtain ⟨wa, ca, ba, as, hC⟩ := hC
    have v1 := hvo.1
    have v5 := hvo.2.1
    have kn := (Kn.start0T (H0 := H) (T := [(a, [.ref wa, .int C.size, .ref ca, .ref ba]), (va, vs.map V.int)]) (fun q hq => by
      simp only [List.mem_cons, List.not_mem_nil, or_false] at hq
      rcases hq with e | e <;> rw [e]
      · exact hC.top
      · exact hva)).imp (CodeAt.mo a C wa ca ba as) fun _ => hC
    walk_at "wp"
    rw [List.length_map]
    refine w_dnew kn fun d H1 kn => ?_
    walk_at "wp"
    refine ⟨ca, as, C.cells, rfl, kn.pp.ct, kn.pp.cs, hok.c.2, fun c hc => Cell.okV (hok.cn c hc), hz, fun l As H2 s2 hl hB hA4 => ?_⟩
    have kn := kn.same s2
    have l2 := hB.len
    generalize weaveBlocks C.cells = Bs at hL q hB l2
    generalize hh : vs.length = h at hL q v1 v5
    have sm0 := kn.fr.toSame
    have hd0 : H d = none := kn.ow 0 rfl
    have kn := kn.anew (L1 := [(d, HO.dK [])]) (L2_ := [])
    have hst : ∀ {H3 : Hp}, Fm [d] H2 H3 → All2 (LbAt H3) As Bs := fun {H3} f => hB.imp fun A B x => by
      refine ⟨f.keep _ _ x.o fun z => ?_, x.t.mono f.tup⟩
      have e : A.ol = d := by simpa using z
      have h1 := x.o
      rw [e, kn.l 0 rfl] at h1
      cases h1
    have hsl : ∀ {H3 : Hp}, Fm [d] H2 H3 → H3 l = some (.lst (As.map fun A : LA => V.ref A.t)) := fun {H3} f => f.keep _ _ hl fun z => by
      have e : l = d := by simpa using z
      rw [e, kn.l 0 rfl] at hl
      cases hl
    walk_at "wp"
    refine w_forL (SqL.of hl) (fun j σ' H' => ∃ (at_ : Int) (kvs : List (Key × V)) (a6 a7 a8 : Option V), σ' = [some (.ref a), some (.ref va), some (.int (h : Int)), some (.ref d), some (.int at_), some (.ref l), a6, a7, a8, none, none, none] ∧ spotsW h (Bs.drop j) at_ kvs = spotsW h Bs 0 [] ∧ kvs.length ≤ j ∧ Kn H2 [d] [] H' [(d, .dK kvs)] [] (fun H => CodeAt H a C wa ca ba as))
      ⟨0, [], none, none, none, rfl, rfl, Nat.le_refl _, kn.noT⟩ (fun i σ' H' _ hp => ?_) (fun j x σ' H' hx hj hp => ?_) (fun σ' H' hp => ?_)
    · obtain ⟨_, _, _, _, _, _, _, _, kn⟩ := hp
      exact SqL.of (hsl kn.fr)
    · obtain ⟨at_, kvs, a6, a7, a8, rfl, hsp, hkl, kn⟩ := hp
      obtain ⟨A, eA, rfl⟩ := la_get hx
      rw [List.length_map, l2] at hj
      obtain ⟨B, eB, hBA⟩ := (hst kn.fr).get eA
      have hd : Bs.drop j = B :: Bs.drop (j + 1) := by
        rw [List.drop_eq_getElem_cons hj]
        rw [(List.getElem?_eq_some_iff.mp eB).2]
      rw [hd] at hsp
      have lcs : A.cas.length = B.own.length := by
        have := hBA.t.c.len
        simpa using this
      have hBo := hL.o B (List.mem_of_getElem? eB)
      have kn := kn.tps (T' := [(A.t, [.int B.beg, .ref A.ol, A.lv])]) (fun q hq => by
        have e : q = (A.t, [V.int B.beg, .ref A.ol, A.lv]) := by simpa using hq
        rw [e]
        exact hBA.t.t)
      walk_at "wp"
      refine w_kPutI kn 0 rfl (by omega) fun H3 kn => ?_
      walk_at "pm"
      obtain ⟨B', eB', hBA3⟩ := (hst kn.fr).get eA
      have ho3 : SqL K H3 A.ol (A.cas.map V.ref) := SqL.of hBA3.o
      walk_at "wp"
      rw [List.length_map, lcs]
      refine w_rI (.inl ⟨by omega, by omega⟩) ?_
      walk_at "wp"
      have hst2 := hBA.t.s
      have lp := length_putK kvs (Sum.inl B.beg : Key) (.int at_)
      have fin : ∀ a8, ∃ (at_' : Int) (kvs' : List (Key × V)) (b6 b7 b8 : Option V), [some (V.ref a), some (.ref va), some (.int (h : Int)), some (.ref d), some (.int (at_ + B.many h)), some (.ref l), some (.int B.beg), some (.ref A.ol), a8, none, none, none] = [some (.ref a), some (.ref va), some (.int (h : Int)), some (.ref d), some (.int at_'), some (.ref l), b6, b7, b8, none, none, none] ∧ spotsW h (Bs.drop (j + 1)) at_' kvs' = spotsW h Bs 0 [] ∧ kvs'.length ≤ j + 1 ∧ Kn H2 [d] [] H3 [(d, .dK kvs')] [] (fun H => CodeAt H a C wa ca ba as) :=
        fun a8 => ⟨_, _, _, _, _, rfl, hsp, by omega, kn.noT⟩
      cases e2 : B.last with
      | none =>
        rw [e2] at hst2
        have e3 : A.lv = .non := hst2
        rw [e3]
        walk_at "wp"
        have em : B.many h = (h : Int) * B.own.length + 0 := by
          unfold LB.many
          rw [e2] <;> rfl
        have fin := fin (some .non)
        rw [em, ← Int.add_assoc] at fin
        exact fin
      | some c =>
        rw [e2] at hst2
        obtain ⟨tt, e3, _⟩ := hst2
        rw [e3]
        walk_at "wp"
        have em : B.many h = (h : Int) * B.own.length + 1 := by
          unfold LB.many
          rw [e2] <;> rfl
        have fin := fin (some (.ref tt))
        rw [em, ← Int.add_assoc] at fin
        exact fin
    · obtain ⟨at_, kvs, a6, a7, a8, rfl, hsp, hkl, kn⟩ := hp
      rw [List.length_map, l2, List.drop_length] at hsp
      have hsp : kvs = spotsW h Bs 0 [] := hsp
      subst hsp
      walk_at "wp"
      refine w_kLst kn rfl fun fo H3 kn => ?_
      have kn := kn.pm [1, 0] (by decide)
      walk_at "pm"
      walk_at "wp"
      have lp : ∀ j, ((Bs.take j).flatMap (laidW (spW h Bs) h)).length ≤ 10000 := fun j => by
        have e : layW h Bs = (Bs.take j).flatMap (laidW (spW h Bs) h) ++ (Bs.drop j).flatMap (laidW (spW h Bs) h) := by
          unfold layW
          rw [← List.flatMap_append, List.take_append_drop]
        have := hL.l
        rw [e, List.length_append] at this
        omega
      refine w_forL (SqL.of (hsl kn.fr)) (fun j σ' H' => ∃ (fo : Addr) (rs : List Addr) (a6 a7 a8 a10 : Option V), σ' = [some (.ref a), some (.ref va), some (.int (h : Int)), some (.ref d), some (.int at_), some (.ref l), a6, a7, a8, some (.ref fo), a10, none] ∧
          Kn H2 [d] [] H' [(d, .dK (spotsW h Bs 0 [])), (fo, .lst (rs.map V.ref))] [] (fun H => CodeAt H a C wa ca ba as ∧ At H rs (((Bs.take j).flatMap (laidW (spW h Bs) h)).map Cell.its)))
        ⟨fo, [], _, _, _, none, rfl, kn.and (S := fun H => At H [] []) (At.mo _ _) .nil⟩ (fun i σ' H' _ hp => ?_) (fun j x σ' H' hx hj hp => ?_) (fun σ' H' hp => ?_)
      · obtain ⟨_, _, _, _, _, _, _, kn⟩ := hp
        exact SqL.of (hsl kn.fr)
      · obtain ⟨fo, rs, a6, a7, a8, a10, rfl, kn⟩ := hp
        obtain ⟨A, eA, rfl⟩ := la_get hx
        rw [List.length_map, l2] at hj
        obtain ⟨B, eB, hBA⟩ := (hst kn.fr).get eA
        have lcs : A.cas.length = B.own.length := by
          have := hBA.t.c.len
          simpa using this
        have hBo := hL.o B (List.mem_of_getElem? eB)
        have htj : (Bs.take (j + 1)).flatMap (laidW (spW h Bs) h) = (Bs.take j).flatMap (laidW (spW h Bs) h) ++ laidW (spW h Bs) h B := by
          rw [List.take_add_one, eB, List.flatMap_append]
          simp
        have lpj := lp j
        generalize hpre : (Bs.take j).flatMap (laidW (spW h Bs) h) = pre at kn htj lpj
        have kn := kn.tps (T' := [(A.t, [.int B.beg, .ref A.ol, A.lv])]) (fun q hq => by
          have e : q = (A.t, [V.int B.beg, .ref A.ol, A.lv]) := by simpa using hq
          rw [e]
          exact hBA.t.t)
        have lfl : ∀ n, n ≤ 5 → (flush n B.own).length ≤ 20000 := fun n hn => by
          rw [flush_len]
          exact Nat.le_trans (Nat.mul_le_mul hn hBo) (by decide)
        walk_at "wp"
        refine w_forR ⟨by omega, by omega⟩ (fun n σ' H' => ∃ (fo : Addr) (rs : List Addr) (a10 : Option V), σ' = [some (.ref a), some (.ref va), some (.int (h : Int)), some (.ref d), some (.int at_), some (.ref l), some (.int B.beg), some (.ref A.ol), some A.lv, some (.ref fo), a10, none] ∧
            Kn H2 [d] [] H' [(d, .dK (spotsW h Bs 0 [])), (fo, .lst (rs.map V.ref))] [] (fun H => CodeAt H a C wa ca ba as ∧ At H rs ((pre ++ flush n B.own).map Cell.its)))
          ⟨fo, rs, a10, rfl, by
            have e : pre ++ flush 0 B.own = pre := List.append_nil _
            rw [e]
            exact kn.noT⟩ (fun n σ' H' hn hp => ?_) (fun σ' H' hp => ?_)
        · obtain ⟨fo, rs, a10, rfl, kn⟩ := hp
          have hBA2 : H' A.ol = some (.lst (A.cas.map V.ref)) := by
            obtain ⟨_, _, x⟩ := (hst kn.fr).get eA
            exact x.o
          have lpn := lfl n (by omega)
          have las : rs.length = pre.length + (flush n B.own).length := by
            have := kn.pp.2.len
            rw [List.length_map, List.length_append] at this
            exact this
          walk_at "wp"
          refine w_lcL kn (SqL.of hBA2) (fun D i H' => ∃ ds : List Addr, Kn H2 [d] [] H' [(D, .lst (ds.map V.ref)), (d, .dK (spotsW h Bs 0 [])), (fo, .lst (rs.map V.ref))] [] (fun H => (CodeAt H a C wa ca ba as ∧ At H rs ((pre ++ flush n B.own).map Cell.its)) ∧ At H ds (((B.own.take i).map (Cell.ins (n : Int))).map Cell.its)))
            (fun D H' kn => ⟨[], kn.and (At.mo _ _) .nil⟩) (fun D i H' _ hp => ?_) (fun D i x H' hx hi hp => ?_) (fun D H' hp => ?_)
          · obtain ⟨_, kn⟩ := hp
            obtain ⟨_, _, x⟩ := (hst kn.fr).get eA
            exact SqL.of x.o
          · obtain ⟨ds, kn⟩ := hp
            obtain ⟨o, eo, rfl⟩ := At.refs hx
            obtain ⟨B2, eB2, hx2⟩ := (hst kn.fr).get eA
            have eBB : B2 = B := Option.some.inj (eB2.symm.trans eB)
            subst eBB
            obtain ⟨its, e1, ho⟩ := hx2.t.c.get' eo
            rw [List.getElem?_map] at e1
            obtain ⟨ii, eii, rfl⟩ := Option.map_eq_some_iff.mp e1
            rw [List.length_map, lcs] at hi
            have lds : ds.length = i := by
              have := kn.pp.2.len
              rw [List.length_map, List.length_map, List.length_take] at this
              omega
            have kn := kn.tps (T' := [(o, .int 0 :: ii.its)]) (fun q hq => by
              have e : q = (o, V.int 0 :: ii.its) := by simpa using hq
              rw [e]
              exact ho)
            walk_at "wp"
            refine w_kTup kn rfl fun p H3 kn => ?_
            walk_at "wp"
            refine w_slT kn (SqT.of (kn.t 1 rfl)) (cut_ne _ _ _) fun sl H4 kn => ?_
            rw [cut_tail] at kn
            have hle := ii.le
            refine w_catT kn (SqT.of (kn.t 1 rfl)) (SqT.of (kn.t 0 rfl)) (by rw [List.length_singleton]; omega) (by intro z; cases z) ii.ne fun t H5 kn => ?_
            refine w_kAcc kn 0 rfl (by rw [List.length_map]; omega) fun H6 kn => ?_
            walk_at "pm"
            have ht := kn.t 0 rfl
            refine ⟨ds ++ [t], ?_⟩
            have kn := (kn.imp (S := fun H => (CodeAt H a C wa ca ba as ∧ At H rs ((pre ++ flush n B2.own).map Cell.its)) ∧ At H (ds ++ [t]) (((B2.own.take (i + 1)).map (Cell.ins (n : Int))).map Cell.its)) (fun _ _ t h => ⟨⟨h.1.1.mono t, h.1.2.mono t⟩, h.2.mono t⟩) fun h => ⟨h.1, by
              rw [take_map _ eii, List.map_append]
              exact h.2.app (.one ht)⟩).noT
            rw [List.map_append]
            exact kn
          · obtain ⟨ds, kn⟩ := hp
            rw [List.length_map, lcs, List.take_length] at kn
            have lds : ds.length = B.own.length := by
              have := kn.pp.2.len
              rw [List.length_map, List.length_map] at this
              exact this
            walk_at "wp"
            refine w_cat kn (kn.l 2 rfl) (kn.l 0 rfl) (by rw [List.length_map, List.length_map]; omega) fun r H5 kn => ?_
            have kn := kn.pm [2, 0] (by decide)
            walk_at "pm"
            walk_at "wp"
            refine ⟨r, rs ++ ds, _, rfl, ?_⟩
            have kn := kn.imp (S := fun H => CodeAt H a C wa ca ba as ∧ At H (rs ++ ds) ((pre ++ flush (n + 1) B.own).map Cell.its)) (fun _ _ t h => ⟨h.1.mono t, h.2.mono t⟩) fun h => ⟨h.1.1, by
              rw [flush_succ, ← List.append_assoc, List.map_append]
              exact h.1.2.app h.2⟩
            rw [List.map_append]
            exact kn
        · obtain ⟨fo, rs, a10, rfl, kn⟩ := hp
          have kn : Kn H2 [d] [] H' [(d, .dK (spotsW h Bs 0 [])), (fo, .lst (rs.map V.ref))] [] (fun H => CodeAt H a C wa ca ba as ∧ At H rs ((pre ++ flush h B.own).map Cell.its)) := kn
          have lpn := lfl h v5
          have las : rs.length = pre.length + (flush h B.own).length := by
            have := kn.pp.2.len
            rw [List.length_map, List.length_append] at this
            exact this
          obtain ⟨B2, eB2, hx2⟩ := (hst kn.fr).get eA
          have eBB : B2 = B := Option.some.inj (eB2.symm.trans eB)
          subst eBB
          have hst3 := hx2.t.s
          cases e2 : B2.last with
          | none =>
            rw [e2] at hst3
            have e3 : A.lv = .non := hst3
            rw [e3]
            walk_at "wp"
            refine ⟨fo, rs, _, _, _, _, rfl, ?_⟩
            rw [htj]
            unfold laidW
            rw [e2, List.append_nil]
            exact kn
          | some c =>
            rw [e2] at hst3
            obtain ⟨t, e3, ht⟩ := hst3
            obtain ⟨s2, s3⟩ := hL.s B2 (List.mem_of_getElem? eB) c e2
            have hsp : ∀ g, c.goal? = some g → valV (spotsW h Bs 0 []) (Sum.inl g : Key) = some (.int (spW h Bs g)) := fun g hg => by
              obtain ⟨nn, hnn⟩ := s3 g hg
              unfold spW
              rw [hnn]
            rw [e3]
            have fin : ∀ (t2 : Addr) (H9 : Hp) (TT : Tps), Kn H2 [d] [] H9 [(d, .dK (spotsW h Bs 0 [])), (fo, .lst (rs.map V.ref))] TT (fun H => CodeAt H a C wa ca ba as ∧ At H rs ((pre ++ flush h B2.own).map Cell.its)) → H9 t2 = some (.tup (led (spW h Bs) h c).its) →
                rAppend (.ref fo) [.ref t2] H9 fun _ H10 => ∃ (fo' : Addr) (rs : List Addr) (a6 a7 a8 b10 : Option V), [some (V.ref a), some (.ref va), some (.int (h : Int)), some (.ref d), some (.int at_), some (.ref l), some (.int B2.beg), some (.ref A.ol), some (.ref t), some (.ref fo), a10, none] = [some (.ref a), some (.ref va), some (.int (h : Int)), some (.ref d), some (.int at_), some (.ref l), a6, a7, a8, some (.ref fo'), b10, none] ∧
                  Kn H2 [d] [] H10 [(d, .dK (spotsW h Bs 0 [])), (fo', .lst (rs.map V.ref))] [] (fun H => CodeAt H a C wa ca ba as ∧ At H rs (((Bs.take (j + 1)).flatMap (laidW (spW h Bs) h)).map Cell.its)) := fun t2 H9 TT kn h2 => by
              have kn := kn.tps (T' := [(t2, (led (spW h Bs) h c).its)]) (fun q hq => by
                have e : q = (t2, (led (spW h Bs) h c).its) := by simpa using hq
                rw [e]
                exact h2)
              refine w_append kn 1 rfl (by rw [List.length_map]; omega) fun H10 kn => ?_
              walk_at "pm"
              have h2 := kn.t 0 rfl
              refine ⟨fo, rs ++ [t2], _, _, _, _, rfl, ?_⟩
              have kn := (kn.imp (S := fun H => CodeAt H a C wa ca ba as ∧ At H (rs ++ [t2]) ((pre ++ laidW (spW h Bs) h B2).map Cell.its)) (fun _ _ t h => ⟨h.1.mono t, h.2.mono t⟩) fun hh => ⟨hh.1, by
                unfold laidW
                rw [e2, ← List.append_assoc, List.map_append]
                exact hh.2.app (.one h2)⟩).noT
              rw [htj, List.map_append]
              exact kn
            cases c with
            | ins j i => exact absurd rfl (s2 j i)
            | turn g wd =>
              have kn := kn.tps (T' := [(t, [.str "turn", .int g, .int wd])]) (fun q hq => by
                have e : q = (t, [V.str "turn", .int g, .int wd]) := by simpa using hq
                rw [e]
                exact ht)
              walk_at "wp"
              refine w_kLst kn rfl fun o1 H6 kn => ?_
              walk_at "wp"
              refine w_in (k := true) (.inl (SqL.of (kn.l 0 rfl))) rfl rfl (by decide +kernel) ?_
              have kn := kn.drop
              walk_at "wp"
              refine w_kGetI (kn.l 0 rfl) (hsp g rfl) ?_
              walk_at "wp"
              refine w_kTup kn rfl fun o2 H7 kn => ?_
              walk_at "wp"
              refine w_kTup kn rfl fun o3 H8 kn => ?_
              walk_at "wp"
              refine w_rep1 (SqT.of (kn.t 0 rfl)) (by intro z; cases z) ?_
              refine w_catT kn (SqT.of (kn.t 1 rfl)) (SqT.of (kn.t 0 rfl)) (by show 3 ≤ 100000; decide) (by intro z; cases z) (by intro z; cases z) fun t2 H9 kn => ?_
              walk_at "wp"
              exact fin t2 H9 _ kn (kn.t 0 rfl)
            | goto g =>
              have kn := kn.tps (T' := [(t, [.str "goto", .int g])]) (fun q hq => by
                have e : q = (t, [V.str "goto", .int g]) := by simpa using hq
                rw [e]
                exact ht)
              walk_at "wp"
              refine w_kLst kn rfl fun o1 H6 kn => ?_
              walk_at "wp"
              refine w_in (k := true) (.inl (SqL.of (kn.l 0 rfl))) rfl rfl (by decide +kernel) ?_
              have kn := kn.drop
              walk_at "wp"
              refine w_kGetI (kn.l 0 rfl) (hsp g rfl) ?_
              walk_at "wp"
              refine w_kTup kn rfl fun o2 H7 kn => ?_
              walk_at "wp"
              refine w_kTup kn rfl fun o3 H8 kn => ?_
              walk_at "wp"
              refine w_rep0 kn (SqT.of (kn.t 0 rfl)) (by intro z; cases z) fun o4 H9 kn => ?_
              refine w_catT0 (SqT.of (kn.t 2 rfl)) (SqT.of (kn.t 0 rfl)) (by show 2 ≤ 100000; decide) (by intro z; cases z) ?_
              walk_at "wp"
              exact fin o2 H9 _ kn (kn.t 2 rfl)
            | shw p wd =>
              have kn := kn.tps (T' := [(t, [.str "show", .int p, .int wd])]) (fun q hq => by
                have e : q = (t, [V.str "show", .int p, .int wd]) := by simpa using hq
                rw [e]
                exact ht)
              walk_at "wp"
              refine w_kLst kn rfl fun o1 H6 kn => ?_
              walk_at "wp"
              refine w_in (k := false) (.inl (SqL.of (kn.l 0 rfl))) rfl rfl (by decide +kernel) ?_
              have kn := kn.drop
              walk_at "wp"
              refine w_slT (hi := some 2) kn (SqT.of (kn.t 0 rfl)) (fun z => absurd (show (2 : Nat) = 3 from z.2) (by decide)) fun sl H7 kn => ?_
              walk_at "wp"
              refine w_kTup kn rfl fun o2 H8 kn => ?_
              walk_at "wp"
              refine w_catT kn (SqT.of (kn.t 1 rfl)) (SqT.of (kn.t 0 rfl)) (by show 3 ≤ 100000; decide) (by intro z; cases z) (by intro z; cases z) fun t2 H9 kn => ?_
              walk_at "wp"
              exact fin t2 H9 _ kn (kn.t 0 rfl)
            | take p wd =>
              have kn := kn.tps (T' := [(t, [.str "take", .int p, .int wd])]) (fun q hq => by
                have e : q = (t, [V.str "take", .int p, .int wd]) := by simpa using hq
                rw [e]
                exact ht)
              walk_at "wp"
              refine w_kLst kn rfl fun o1 H6 kn => ?_
              walk_at "wp"
              refine w_in (k := false) (.inl (SqL.of (kn.l 0 rfl))) rfl rfl (by decide +kernel) ?_
              have kn := kn.drop
              walk_at "wp"
              refine w_slT (hi := some 2) kn (SqT.of (kn.t 0 rfl)) (fun z => absurd (show (2 : Nat) = 3 from z.2) (by decide)) fun sl H7 kn => ?_
              walk_at "wp"
              refine w_kTup kn rfl fun o2 H8 kn => ?_
              walk_at "wp"
              refine w_catT kn (SqT.of (kn.t 1 rfl)) (SqT.of (kn.t 0 rfl)) (by show 3 ≤ 100000; decide) (by intro z; cases z) (by intro z; cases z) fun t2 H9 kn => ?_
              walk_at "wp"
              exact fin t2 H9 _ kn (kn.t 0 rfl)
            | stop =>
              have kn := kn.tps (T' := [(t, [.str "stop"])]) (fun q hq => by
                have e : q = (t, [V.str "stop"]) := by simpa using hq
                rw [e]
                exact ht)
              walk_at "wp"
              refine w_kLst kn rfl fun o1 H6 kn => ?_
              walk_at "wp"
              refine w_in (k := false) (.inl (SqL.of (kn.l 0 rfl))) rfl rfl (by decide +kernel) ?_
              have kn := kn.drop
              walk_at "wp"
              exact fin t _ _ kn (kn.t 0 rfl)
            | mark =>
              have kn := kn.tps (T' := [(t, [.str "mark"])]) (fun q hq => by
                have e : q = (t, [V.str "mark"]) := by simpa using hq
                rw [e]
                exact ht)
              walk_at "wp"
              refine w_kLst kn rfl fun o1 H6 kn => ?_
              walk_at "wp"
              refine w_in (k := false) (.inl (SqL.of (kn.l 0 rfl))) rfl rfl (by decide +kernel) ?_
              have kn := kn.drop
              walk_at "wp"
              exact fin t _ _ kn (kn.t 0 rfl)
      · obtain ⟨fo, rs, a6, a7, a8, a10, rfl, kn⟩ := hp
        rw [List.length_map, l2, List.take_length] at kn
        have kn := kn.tps (T' := [(a, [.ref wa, .int C.size, .ref ca, .ref ba])]) (fun q hq => by
          have e : q = (a, [V.ref wa, .int C.size, .ref ca, .ref ba]) := by simpa using hq
          rw [e]
          exact kn.pp.1.top)
        walk_at "wp"
        refine w_tupOfL kn (SqL.of (kn.l 1 rfl)) fun r H3 kn => ?_
        walk_at "wp"
        refine w_kTup kn rfl fun r2 H4 kn => ?_
        have sm : Same H H4 := fun b o e => kn.fr.keep _ _ (sm0 _ _ e) fun z => by
          have e2 : b = d := by simpa using z
          rw [e2, hd0] at e
          cases e
        exact q r2 H4 sm ⟨va, r, ba, rs, kn.t 0 rfl, sm _ _ hva, kn.t 1 rfl, kn.pp.1.bt, kn.pp.2⟩
end
end Hue
set_option Elab.async false
set_option linter.all false
set_option maxRecDepth 100000
set_option maxHeartbeats 4000000
set_option autoImplicit false
namespace Hue
open PySem PySem.Spec PyProof.Rows L2
def N_law_runs_right : List Str := [("_law_code" : Str), ("_law_wide" : Str), ("_law_inputs_here" : Str), ("_law_one" : Str), ("_law_two" : Str), ("_law_both" : Str)]
theorem sc_law_runs_right : FnScope N_law_runs_right [("_law_code" : Str), ("_law_wide" : Str), ("_law_inputs_here" : Str)] (defScope s_law_runs_right) := ⟨rfl, rfl, rfl, by decide +kernel, rfl, by decide +kernel, by decide +kernel⟩
theorem Kn.sub {H0 H : Hp} {M : List Addr} {R L L' : Obs} {T : Tps} {P : Hp → Prop} (kn : Kn H0 M R H L T P) (s : L'.Sublist L) : Kn H0 M R H L' T P :=
  kn.obs (kn.nd.sublist (s.map _)) fun q hq => s.subset hq
structure RightOk (S1 S2 : MS) : Prop where
  pre : S1.row.take (min S1.row.length S2.row.length) = S2.row.take (min S1.row.length S2.row.length)
  ev : S2.even = true ∨ S2.state = ("caught" : Str)
  eq : S1.state ≠ ("running" : Str) → S2.state = S1.state ∧ S2.row = S1.row
  st : S2.state = ("running" : Str) ∨ S1.state = ("running" : Str) ∨ S2.state = S1.state
def rRunsRight : V → V → V → Hp → VK → XK → Prop := fun x y z H Q _ => ∃ (a b il : Addr) (C W : Code) (ins : List Int), x = .ref a ∧ y = .ref b ∧ z = .ref il ∧ IsCode H a C ∧ C.Ok ∧ IsCode H b W ∧ W.Ok ∧ H il = some (.lst (ins.map V.int)) ∧ ins.length ≤ 1000 ∧ GoodRun C 300 (init C ins) ∧ GoodRun W 1500 (init W ins) ∧
  RightOk (runR C 300 (init C ins)).ms (runR W 1500 (init W ins)).ms ∧ ∀ H', Same H H' → Q (.bl true) H'
theorem Row.okV (r : Row) : r.its.all okV = true := by
  cases r <;> exact okS (by unfold words; simp) rfl
theorem cut_take (vs : List V) (n : Nat) : cutV vs none (some (n : Int)) = vs.take n := by
  unfold cutV
  rw [HT.sIx_nat, HT.sIx_none, List.drop_zero, Nat.sub_zero, Nat.min_comm, List.take_eq_take_min]
  simp [Nat.min_comm]
section
variable {P : Program} {w : World} {K : PySem.W.Frag} {mg : Str → Option Value} {base : Heap}
theorem ok_law_runs_right (D : DefAt K mg "_law_runs_right" s_law_runs_right) (T : Txt K mg) (C_law_weave_ran : Cal P w K mg base CX0 3 "_law_weave_ran" [("_law_code" : Str), ("_law_inputs_here" : Str), ("_law_most" : Str)] (Sp3 rRan)) :
    Cal P w K mg base CX0 4 "_law_runs_right" [("_law_code" : Str), ("_law_wide" : Str), ("_law_inputs_here" : Str)] (Sp3 rRunsRight) := by
  refine cal_of D sc_law_runs_right (fun _ _ _ _ _ _ us hl => match us, hl with | [_, _, _], _ => rfl) (fun vs H Q E h => ?_) (fun f cdv A outer s H vs Q E hr h => ⟨_, PSs.nox ((pss_cons (ps_par (i := 3) (j := 4) (by rfl) sc_law_runs_right.nd rfl rfl (by decide) rfl rfl (pa_cons (pe_cl C_law_weave_ran hr (by decide) pass0 rfl (pa_cons (pv 0) (pa_cons (pv 2) (pa_cons pe_int pa_nil)))) (pa_cons (pe_cl C_law_weave_ran hr (by decide) pass0 rfl (pa_cons (pv 1) (pa_cons (pv 2) (pa_cons pe_int pa_nil)))) pa_nil)) (by rfl))
      (pss_cons (ps_set (i := 5) sc_law_runs_right.nd rfl (Or.inl rfl) (pe_callB (cr_min2 rfl) (by rfl) T.b_min (by decide +kernel) (pa_cons (pe_callB (cr_lenK (K := K)) (by rfl) T.b_len (by decide +kernel) (pa_cons (pe_dget (hu_of hr) (pv 3) pe_str (fun _ _ => rfl)) pa_nil)) (pa_cons (pe_callB (cr_lenK (K := K)) (by rfl) T.b_len (by decide +kernel) (pa_cons (pe_dget (hu_of hr) (pv 4) pe_str (fun _ _ => rfl)) pa_nil)) pa_nil))))
      (pss_cons (ps_if (PW.pt (pw_or (pt_cmpR (op_neDK (K := K) hr.units) (pe_slice (sl_listK (K := K)) (pe_dget (hu_of hr) (pv 3) pe_str (fun _ _ => rfl)) po_none (po_some (pv 5))) (pe_slice (sl_listK (K := K)) (pe_dget (hu_of hr) (pv 4) pe_str (fun _ _ => rfl)) po_none (po_some (pv 5))) (nomark _)) (pw_or1 (PW.pt (pw_and (pt_not (pt_val (pe_dget (hu_of hr) (pv 4) pe_str (fun _ _ => rfl)))) (pw_and1 (pt_cmpR op_ne (pe_dget (hu_of hr) (pv 4) pe_str (fun _ _ => rfl)) pe_str (nomark _)))))))) (pss_one (ps_ret pe_bl)) pss_nil)
      (pss_cons (ps_if (PW.pt (pw_and (pt_cmpR op_ne (pe_dget (hu_of hr) (pv 3) pe_str (fun _ _ => rfl)) pe_str (nomark _)) (pw_and1 (PW.pt (pw_or (pt_cmpR op_ne (pe_dget (hu_of hr) (pv 4) pe_str (fun _ _ => rfl)) (pe_dget (hu_of hr) (pv 3) pe_str (fun _ _ => rfl)) (nomark _)) (pw_or1 (pt_cmpR (op_neDK (K := K) hr.units) (pe_dget (hu_of hr) (pv 4) pe_str (fun _ _ => rfl)) (pe_dget (hu_of hr) (pv 3) pe_str (fun _ _ => rfl)) (nomark _)))))))) (pss_one (ps_ret pe_bl)) pss_nil)
      (pss_one (ps_ret (pe_or (pe_cmpR op_eq (pe_dget (hu_of hr) (pv 4) pe_str (fun _ _ => rfl)) pe_str (nomark _)) (pe_or (pe_cmpR op_eq (pe_dget (hu_of hr) (pv 3) pe_str (fun _ _ => rfl)) pe_str (nomark _)) (pe_one (pe_cmpR op_eq (pe_dget (hu_of hr) (pv 4) pe_str (fun _ _ => rfl)) (pe_dget (hu_of hr) (pv 3) pe_str (fun _ _ => rfl)) (nomark _)))))))))))), ?_⟩)
  · obtain ⟨a, b, c, rfl, _⟩ := h
    rfl
  · obtain ⟨x, y, z, rfl, a, b, il, C, W, ins, rfl, rfl, rfl, hC, hCo, hW, hWo, hil, hin, g1, g2, hR, q⟩ := h
    walk_at "wp"
    refine ⟨a, il, C, ins, 300, rfl, rfl, rfl, hC, hCo, hil, hin, by decide, g1, fun W1 As1 E1 H1 _ kn1 => ?_⟩
    have s1 := kn1.fr.toSame
    walk_at "wp"
    refine ⟨b, il, W, ins, 1500, rfl, rfl, rfl, IsCode.mo _ _ _ _ kn1.fr.tup hW, hWo, s1 _ _ hil, hin, by decide, g2, fun W2 As2 E2 H2 _ kn2 => ?_⟩
    generalize (runR C 300 (init C ins)).ms = S1 at kn1 hR
    generalize (runR W 1500 (init W ins)).ms = S2 at kn2 hR
    generalize hObsM As1 (runR C 300 (init C ins)).hues = hs1 at kn1
    generalize hObsM As2 (runR W 1500 (init W ins)).hues = hs2 at kn2
    have kn := Kn.trans (L1 := []) kn1 kn2 (fun b hb => by cases hb)
    have kn := kn.sub (L' := [(W2.wd, oWorld W2 S2 E2), (W2.rw, .lst (E2.rs.map V.ref)), (W1.wd, oWorld W1 S1 E1), (W1.rw, .lst (E1.rs.map V.ref))]) (by
      unfold wObs
      exact List.Sublist.append (l₁ := [(W2.wd, oWorld W2 S2 E2), (W2.rw, HO.lst (E2.rs.map V.ref))]) (.cons_cons _ (.cons _ (.cons_cons _ (List.nil_sublist _)))) (.cons_cons _ (.cons _ (.cons_cons _ (List.nil_sublist _)))))
    obtain ⟨hp, hev, heq, hstt⟩ := hR
    obtain ⟨row1, left1, at1, st1, steps1, even1⟩ := S1
    obtain ⟨row2, left2, at2, st2, steps2, even2⟩ := S2
    obtain ⟨o1, se1, wh1, sn1, rs1⟩ := E1
    obtain ⟨o2, se2, wh2, sn2, rs2⟩ := E2
    have l1 : rs1.length = row1.length := by
      have := kn.pp.1.len
      simpa using this
    have l2 : rs2.length = row2.length := by
      have := kn.pp.2.len
      simpa using this
    dsimp only at kn hp hev heq hstt
    have kn : Kn H [] [] H2 [(W2.wd, .dK (zipK wK [.ref W2.hl, .ref W2.rw, .ref W2.wn, .ref W2.lf, .int at2, .str st2, .int steps2, .int o2, .int se2, .bl even2, .ref W2.sn])), (W2.rw, .lst (rs2.map V.ref)), (W1.wd, .dK (zipK wK [.ref W1.hl, .ref W1.rw, .ref W1.wn, .ref W1.lf, .int at1, .str st1, .int steps1, .int o1, .int se1, .bl even1, .ref W1.sn])), (W1.rw, .lst (rs1.map V.ref))] [] (fun H => At H rs1 (row1.map Row.its) ∧ At H rs2 (row2.map Row.its)) := kn.noT
    have okr : ∀ (row : List Row), ∀ xs ∈ row.map Row.its, xs.all okV = true := fun row xs hx => by
      obtain ⟨r, _, rfl⟩ := List.mem_map.mp hx
      exact r.okV
    have hm : (if ((rs2.map V.ref).length : Int) < ((rs1.map V.ref).length : Int) then ((rs2.map V.ref).length : Int) else ((rs1.map V.ref).length : Int)) = ((min row1.length row2.length : Nat) : Int) := by
      rw [List.length_map, List.length_map, l1, l2]
      by_cases z : (row2.length : Int) < row1.length
      · rw [if_pos z]
        omega
      · rw [if_neg z]
        omega
    have ddat : ∀ {H3 : Hp} {p : Addr} {rs : List Addr} {row : List Row} (m : Nat), H3 p = some (.lst ((rs.map V.ref).take m)) → At H3 rs (row.map Row.its) → Dp K H3 (.ref p) (.list (((row.take m).map Row.its).map tD)) := fun {H3 p rs row} m hp hat => by
      have e : (rs.map V.ref).take m = (rs.take m).map V.ref := by rw [List.map_take]
      rw [e] at hp
      have ht : At H3 (rs.take m) ((row.take m).map Row.its) := by
        unfold At at *
        rw [List.map_take, List.map_take, List.map_take, hat]
      exact .lst (SqL.of hp) (ht.dp (okr _))
    have ndd : ∀ row : List Row, ND 2 (.list ((row.map Row.its).map tD)) := fun row => (NDs.tD (n := 0) (okr row)).list
    walk_at "wp"
    rw [hm]
    refine w_slL kn (SqL.of (kn.l 3 rfl)) fun sl1 H3 kn => ?_
    rw [cut_take] at kn
    walk_at "wp"
    refine w_slL kn (SqL.of (kn.l 2 rfl)) fun sl2 H4 kn => ?_
    rw [cut_take] at kn
    walk_at "wp"
    refine w_neR (ddat _ (kn.l 1 rfl) kn.pp.1) (by rw [hp]; exact ddat _ (kn.l 0 rfl) kn.pp.2) (ndd _) (by decide) ?_
    have kn := kn.drop.drop
    walk_at "wp"
    have fin : ∀ {nn : L2.St → Hp → Prop}, True := fun {_} => trivial
    have last : ∀ (a5 : Option V), (tIfS (tAnd (tTest (tOp rNe (tDGet (tVar 3) (tC (.str "state"))) (tC (.str "running")))) (tOr (tTest (tOp rNe (tDGet (tVar 4) (tC (.str "state"))) (tDGet (tVar 3) (tC (.str "state"))))) (tTest (tOp (rNeD K) (tDGet (tVar 4) (tC (.str "row"))) (tDGet (tVar 3) (tC (.str "row"))))))) (tRet (tC (.bl false))) tNext)
        ⟨fun σ' H' => tRet (tOrV (tOp rEq (tDGet (tVar 4) (tC (.str "state"))) (tC (.str "running"))) (tOrV (tOp rEq (tDGet (tVar 3) (tC (.str "state"))) (tC (.str "running"))) (tOp rEq (tDGet (tVar 4) (tC (.str "state"))) (tDGet (tVar 3) (tC (.str "state")))))) ⟨fun _ H' => Q .non H', Q, fun _ _ => False, fun _ _ => False⟩ σ' H', Q, fun _ _ => False, fun _ _ => False⟩
        [some (.ref a), some (.ref b), some (.ref il), some (.ref W1.wd), some (.ref W2.wd), a5] H4 := fun a5 => by
      have fin : ∀ {nx : L2.St → Hp → Prop}, tRet (tOrV (tOp rEq (tDGet (tVar 4) (tC (.str "state"))) (tC (.str "running"))) (tOrV (tOp rEq (tDGet (tVar 3) (tC (.str "state"))) (tC (.str "running"))) (tOp rEq (tDGet (tVar 4) (tC (.str "state"))) (tDGet (tVar 3) (tC (.str "state")))))) ⟨nx, Q, fun _ _ => False, fun _ _ => False⟩
          [some (.ref a), some (.ref b), some (.ref il), some (.ref W1.wd), some (.ref W2.wd), a5] H4 := fun {nx} => by
        walk_at "wp"
        refine w_eqS rfl ?_
        walk_at "wp"
        refine kIf_d (fun _ => ?_) fun z1 => ?_
        · exact q _ kn.fr.toSame
        · walk_at "wp"
          refine w_eqS rfl ?_
          walk_at "wp"
          refine kIf_d (fun _ => ?_) fun z2 => ?_
          · exact q _ kn.fr.toSame
          · walk_at "wp"
            refine w_eqS rfl ?_
            rcases hstt with z | z | z
            · exact absurd z z1
            · exact absurd z z2
            · rw [decide_eq_true z]
              exact q _ kn.fr.toSame
      walk_at "wp"
      refine w_neS rfl ?_
      walk_at "wp"
      refine kIf_d (fun _ => ?_) fun z => ?_
      · exact fin
      · obtain ⟨e1, e2⟩ := heq z
        walk_at "wp"
        refine w_neS (decide_eq_true e1) ?_
        walk_at "wp"
        have d2 := ddat (rs := rs2) (row := row2) row2.length (H3 := H4) (p := W2.rw) (by rw [List.take_of_length_le (by rw [List.length_map]; omega)]; exact kn.l 1 rfl) kn.pp.2
        have d1 := ddat (rs := rs1) (row := row1) row1.length (H3 := H4) (p := W1.rw) (by rw [List.take_of_length_le (by rw [List.length_map]; omega)]; exact kn.l 3 rfl) kn.pp.1
        rw [← e2] at d1
        refine w_neR d2 d1 (ndd _) (by decide) ?_
        exact w_kB (kIf_no rfl fin)
    cases even2 with
    | true =>
      exact kIf_t (kIf_no rfl (last _))
    | false =>
      rcases hev with z | z
      · cases z
      · refine kIf_f ?_
        walk_at "wp"
        refine w_neS (decide_eq_true z) ?_
        exact w_kB (kIf_no rfl (last _))
end
end Hue
set_option Elab.async false
set_option linter.all false
set_option maxRecDepth 100000
set_option maxHeartbeats 4000000
set_option autoImplicit false
namespace Hue
open PySem PySem.Spec PyProof.Rows L2
def N_law_great_code : List Str := [("_law_state" : Str), ("_law_hues_here" : Str), ("_law_many" : Str), ("_law_one" : Str), ("_law_some" : Str)]
theorem sc_law_great_code : FnScope N_law_great_code [("_law_state" : Str), ("_law_hues_here" : Str)] (defScope s_law_great_code) := ⟨rfl, rfl, rfl, by decide +kernel, rfl, by decide +kernel, by decide +kernel⟩
theorem rep_flat {α : Type} (x : α) : ∀ n : Nat, (List.replicate n [x]).flatten = List.replicate n x
  | 0 => rfl
  | n + 1 => by
    rw [List.replicate_succ, List.flatten_cons, rep_flat x n, List.replicate_succ] <;> rfl
theorem At.rep {H : Hp} {a : Addr} {xs : List V} (h : H a = some (.tup xs)) : ∀ n : Nat, At H (List.replicate n a) (List.replicate n xs)
  | 0 => .nil
  | n + 1 => (At.one h).app (At.rep h n)
theorem w_repL {H0 H : Hp} {M : List Addr} {R L : Obs} {T : Tps} {P : Hp → Prop} {l : Addr} {x : V} {k : Int} {Q : VK} (kn : Kn H0 M R H L T P) (hl : H l = some (.lst [x])) (k0 : 0 ≤ k) (k1 : k ≤ 100000) (h : ∀ p H', Kn H0 M R H' ((p, .lst (List.replicate k.toNat x)) :: L) T P → Q (.ref p) H') : rRep (.ref l) (.int k) H Q := by
  refine ⟨l, k, [x], rfl, rfl, hl, by omega, by omega, ?_, fun p hp => ?_⟩
  · have e : sizeLine = 16777216 ∨ 100000 ≤ sizeLine := .inr (by decide)
    have : 100000 ≤ sizeLine := by decide
    show 1 * k.toNat ≤ sizeLine
    omega
  · rw [rep_flat]
    exact h p _ (kn.new _ hp rfl)
def greatCells (h d : Int) : List Cell := List.replicate (4000 / h - 1).toNat (.ins 0 (.set d 1)) ++ List.replicate (4000 - h * (4000 / h - 1)).toNat .stop
def rGreat : V → V → Hp → VK → XK → Prop := fun x y H Q _ => ∃ (st g c : Addr) (cs : List Int) (S : SV) (h : Int), x = .ref st ∧ y = .int h ∧ LS H st g c cs S ∧ S.t ≤ 100000000000 ∧ 1 ≤ h ∧ h ≤ 5 ∧
  ∀ (r a b : Addr) (d : Int) (H' : Hp) (S' : SV), Reg d → H' r = some (.lst [.ref a, .ref b]) → IsCode H' a ⟨[1], 7, greatCells h d, []⟩ → IsCode H' b ⟨[1], 7, greatCells h d ++ [.stop], []⟩ → Fm [st, g] H H' → LS H' st g c cs S' → S'.t ≤ S.t + 1 → Q (.ref r) H'
section
variable {P : Program} {w : World} {K : PySem.W.Frag} {mg : Str → Option Value} {base : Heap}
theorem ok_law_great_code (D : DefAt K mg "_law_great_code" s_law_great_code) (T : Txt K mg) (C_law_draw : Cal P w K mg base CX0 2 "_law_draw" [("_law_state" : Str), ("_law_room" : Str)] (Sp2 rDraw)) :
    Cal P w K mg base CX0 3 "_law_great_code" [("_law_state" : Str), ("_law_hues_here" : Str)] (Sp2 rGreat) := by
  refine cal_of D sc_law_great_code (fun _ _ _ _ _ _ us hl => match us, hl with | [_, _], _ => rfl) (fun vs H Q E h => ?_) (fun f cdv A outer s H vs Q E hr h => ⟨_, PSs.nox ((pss_cons (ps_par (i := 2) (j := 3) (by rfl) sc_law_great_code.nd rfl rfl (by decide) rfl rfl (pa_cons (pe_op op_fdiv pe_int (pv 1)) (pa_cons (pe_tup (pa_cons pe_int (pa_cons pe_str (pa_cons (pe_cl C_law_draw hr (by decide) pass0 rfl (pa_cons (pv 0) (pa_cons pe_int pa_nil))) (pa_cons pe_int pa_nil))))) pa_nil)) (by rfl))
      (pss_cons (ps_set (i := 4) sc_law_great_code.nd rfl (Or.inl rfl) (pe_op op_cat (pe_op op_rep (pe_lst (pa_cons (pv 3) pa_nil)) (pe_op op_sub (pv 2) pe_int)) (pe_op op_rep (pe_lst (pa_cons (pe_tup (pa_cons pe_str pa_nil)) pa_nil)) (pe_op op_sub pe_int (pe_op op_mul (pv 1) (pe_op op_sub (pv 2) pe_int))))))
      (pss_one (ps_ret (pe_lst (pa_cons (pe_tup (pa_cons (pe_tup (pa_cons pe_int pa_nil)) (pa_cons pe_int (pa_cons (pe_callTy (cr_tupK (K := K)) (by rfl) T.b_tuple (by decide +kernel) (pa_cons (pv 4) pa_nil)) (pa_cons (pe_tup pa_nil) pa_nil))))) (pa_cons (pe_tup (pa_cons (pe_tup (pa_cons pe_int pa_nil)) (pa_cons pe_int (pa_cons (pe_callTy (cr_tupK (K := K)) (by rfl) T.b_tuple (by decide +kernel) (pa_cons (pe_op op_cat (pv 4) (pe_lst (pa_cons (pe_tup (pa_cons pe_str pa_nil)) pa_nil))) pa_nil)) (pa_cons (pe_tup pa_nil) pa_nil))))) pa_nil)))))))), ?_⟩)
  · obtain ⟨a, b, rfl, _⟩ := h
    rfl
  · obtain ⟨x, y, rfl, st, g, c, cs, S, h, rfl, rfl, l, hT, h1, h5, q⟩ := h
    have gc := l.gc
    have kn := l.kn
    have b1 : 4000 / h ≤ 4000 := by
      rcases (show h = 1 ∨ h = 2 ∨ h = 3 ∨ h = 4 ∨ h = 5 by omega) with e | e | e | e | e <;> rw [e] <;> decide
    have b2 : 800 ≤ 4000 / h := by
      rcases (show h = 1 ∨ h = 2 ∨ h = 3 ∨ h = 4 ∨ h = 5 by omega) with e | e | e | e | e <;> rw [e] <;> decide
    have b3 : 0 ≤ 4000 - h * (4000 / h - 1) ∧ 4000 - h * (4000 / h - 1) ≤ 10 := by
      rcases (show h = 1 ∨ h = 2 ∨ h = 3 ∨ h = 4 ∨ h = 5 by omega) with e | e | e | e | e <;> rw [e] <;> decide
    walk_at "wp"
    refine w_rI ⟨by omega, by omega⟩ ?_
    walk_at "wp"
    refine w_draw kn (kn.r 0 rfl) gc l.tl (by omega) (by decide) (by decide) fun d H1 S1 d0 d1 kn hc t1 t1' => ?_
    walk_at "wp"
    refine w_kTup kn rfl fun one H2 kn => ?_
    walk_at "wp"
    refine w_kLst kn rfl fun o1 H3 kn => ?_
    walk_at "wp"
    refine w_repL kn (kn.l 0 rfl) (by omega) (by omega) fun l1 H4 kn => ?_
    walk_at "wp"
    refine w_kTup kn rfl fun sp H5 kn => ?_
    walk_at "wp"
    refine w_kLst kn rfl fun o2 H6 kn => ?_
    walk_at "wp"
    refine w_rI (.inl ⟨by omega, by omega⟩) ?_
    walk_at "wp"
    refine w_repL kn (kn.l 0 rfl) b3.1 (by omega) fun l2 H7 kn => ?_
    refine w_cat kn (kn.l 2 rfl) (kn.l 0 rfl) (by rw [List.length_replicate, List.length_replicate]; omega) fun so H8 kn => ?_
    walk_at "wp"
    refine w_kTup kn rfl fun v1 H9 kn => ?_
    walk_at "wp"
    refine w_tupOfL kn (SqL.of (kn.l 0 rfl)) fun ca1 H10 kn => ?_
    walk_at "wp"
    refine w_kTup kn rfl fun bk1 H11 kn => ?_
    walk_at "wp"
    refine w_kTup kn rfl fun f1 H12 kn => ?_
    walk_at "wp"
    refine w_kTup kn rfl fun v2 H13 kn => ?_
    walk_at "wp"
    refine w_kTup kn rfl fun sp2 H14 kn => ?_
    walk_at "wp"
    refine w_kLst kn rfl fun o3 H15 kn => ?_
    refine w_cat kn (kn.l 1 rfl) (kn.l 0 rfl) (by rw [List.length_append, List.length_replicate, List.length_replicate]; show _ + 1 ≤ _; omega) fun so2 H16 kn => ?_
    walk_at "wp"
    refine w_tupOfL kn (SqL.of (kn.l 0 rfl)) fun ca2 H17 kn => ?_
    walk_at "wp"
    refine w_kTup kn rfl fun bk2 H18 kn => ?_
    walk_at "wp"
    refine w_kTup kn rfl fun f2 H19 kn => ?_
    walk_at "wp"
    refine w_kLst kn rfl fun r H20 kn => ?_
    have n1 : ∀ (as : List Addr), (List.replicate (4000 / h - 1).toNat one ++ List.replicate (4000 - h * (4000 / h - 1)).toNat sp ++ as).map V.ref = List.replicate (4000 / h - 1).toNat (V.ref one) ++ List.replicate (4000 - h * (4000 / h - 1)).toNat (V.ref sp) ++ as.map V.ref := fun as => by
      rw [List.map_append, List.map_append, List.map_replicate, List.map_replicate]
    have at1 : At H20 (List.replicate (4000 / h - 1).toNat one ++ List.replicate (4000 - h * (4000 / h - 1)).toNat sp) ((greatCells h d).map Cell.its) := by
      unfold greatCells
      rw [List.map_append, List.map_replicate, List.map_replicate]
      exact (At.rep (kn.t 10 rfl) _).app (At.rep (kn.t 9 rfl) _)
    refine q r f1 f2 d H20 S1 ⟨d0, by omega⟩ (kn.l 0 rfl) ⟨v1, ca1, bk1, _, kn.t 5 rfl, kn.t 8 rfl, ?_, kn.t 6 rfl, at1⟩ ⟨v2, ca2, bk2, List.replicate (4000 / h - 1).toNat one ++ List.replicate (4000 - h * (4000 / h - 1)).toNat sp ++ [sp2], kn.t 0 rfl, kn.t 4 rfl, ?_, kn.t 1 rfl, ?_⟩ kn.fr ⟨kn.l 8 rfl, kn.l 9 rfl, kn.r 0 rfl, gc, t1⟩ t1'
    · have e := n1 []
      rw [List.append_nil] at e
      rw [e, List.map_nil, List.append_nil]
      exact kn.t 7 rfl
    · rw [n1]
      exact kn.t 2 rfl
    · rw [List.map_append]
      exact at1.app (.one (kn.t 3 rfl))
end
end Hue
set_option Elab.async false
set_option linter.all false
set_option maxRecDepth 100000
set_option maxHeartbeats 4000000
set_option autoImplicit false
namespace Hue
open PySem L2
/-! ### the wide cells, said once -/
def wgo (sp : Int → Int) (h : Nat) (gs : List Int) : Int → List Ins → List Cell → List Cell
  | _, own, [] => flush h own
  | k, own, c :: cs =>
    (if k ∈ gs then flush h own else []) ++ (match c with
      | .ins _ i => wgo sp h gs (k + 1) ((if k ∈ gs then [] else own) ++ [i]) cs
      | c => flush h (if k ∈ gs then [] else own) ++ led sp h c :: wgo sp h gs (k + 1) [] cs)
theorem flush_nil (h : Nat) : flush h [] = [] := by
  have e : (flush h []).length = 0 := by rw [flush_len] <;> rfl
  exact List.eq_nil_of_length_eq_zero e
def layS (sp : Int → Int) (h : Nat) (Bs : List Blk) : List Cell := Bs.flatMap (laidB sp h)
def layWS (sp : Int → Int) (h : Nat) (Bs : List LB) : List Cell := Bs.flatMap (laidW sp h)
theorem layS_snoc (sp : Int → Int) (h : Nat) (Bs : List Blk) (B : Blk) : layS sp h (Bs ++ [B]) = layS sp h Bs ++ laidB sp h B := by
  unfold layS
  rw [List.flatMap_append]
  simp
theorem layWS_snoc (sp : Int → Int) (h : Nat) (Bs : List LB) (B : LB) : layWS sp h (Bs ++ [B]) = layWS sp h Bs ++ laidW sp h B := by
  unfold layWS
  rw [List.flatMap_append]
  simp
theorem led_wide5 (sp : Int → Int) (h : Int) (c : Cell) : led sp h (wide5 c) = led sp h c := by
  cases c <;> rfl
theorem laidB_none (sp : Int → Int) (h : Nat) {B : Blk} (e : B.settle = none) : laidB sp h B = flush h B.owns := by
  unfold laidB
  rw [e, List.append_nil]
theorem lay_run (sp : Int → Int) (h : Nat) (gs : List Int) : ∀ (cs : List Cell) (k : Int) (S : List Blk × Blk), S.2.settle = none →
    layS sp h ((runB gs k cs S).1 ++ [(runB gs k cs S).2]) = layS sp h S.1 ++ wgo sp h gs k S.2.owns cs
  | [], k, S, e => by
    show layS sp h (S.1 ++ [S.2]) = layS sp h S.1 ++ flush h S.2.owns
    rw [layS_snoc, laidB_none sp h e]
  | c :: cs, k, S, e => by
    show layS sp h ((runB gs (k + 1) cs (stepB gs k c S)).1 ++ [(runB gs (k + 1) cs (stepB gs k c S)).2]) = _
    -- the key first
    have key : ∃ S2 : List Blk × Blk, stepB gs k c S = cellB c S2 ∧ S2.2.settle = none ∧ S2.2.owns = (if k ∈ gs then [] else S.2.owns) ∧ layS sp h S2.1 = layS sp h S.1 ++ (if k ∈ gs then flush h S.2.owns else []) := by
      refine ⟨if k ∈ gs then keyB k S else S, rfl, ?_⟩
      by_cases hk : k ∈ gs
      · rw [if_pos hk, if_pos hk, if_pos hk]
        unfold keyB
        by_cases hb : S.2.bare = true
        · rw [if_pos hb]
          have eo : S.2.owns = [] := by
            unfold Blk.bare at hb
            have := (Bool.and_eq_true_iff.mp hb).1
            exact List.isEmpty_iff.mp this
          refine ⟨e, eo, ?_⟩
          rw [eo, flush_nil, List.append_nil]
        · rw [if_neg hb]
          refine ⟨rfl, rfl, ?_⟩
          rw [layS_snoc, laidB_none sp h e]
      · rw [if_neg hk, if_neg hk, if_neg hk]
        exact ⟨e, rfl, (List.append_nil _).symm⟩
    obtain ⟨S2, e1, e2, e3, e4⟩ := key
    rw [e1]
    cases c with
    | ins j i =>
      have ih := lay_run sp h gs cs (k + 1) (cellB (.ins j i) S2) e2
      rw [ih]
      show layS sp h S2.1 ++ wgo sp h gs (k + 1) (S2.2.owns ++ [i]) cs = layS sp h S.1 ++ ((if k ∈ gs then flush h S.2.owns else []) ++ wgo sp h gs (k + 1) ((if k ∈ gs then [] else S.2.owns) ++ [i]) cs)
      rw [e4, e3, List.append_assoc]
    | _ =>
      rw [lay_run sp h gs cs (k + 1) _ rfl]
      show layS sp h (S2.1 ++ [⟨S2.2.keys, S2.2.owns, some (wide5 _)⟩]) ++ wgo sp h gs (k + 1) [] cs = layS sp h S.1 ++ ((if k ∈ gs then flush h S.2.owns else []) ++ (flush h (if k ∈ gs then [] else S.2.owns) ++ led sp h _ :: wgo sp h gs (k + 1) [] cs))
      rw [layS_snoc, e4]
      show layS sp h S.1 ++ (if k ∈ gs then flush h S.2.owns else []) ++ (flush h S2.2.owns ++ [led sp h (wide5 _)]) ++ wgo sp h gs (k + 1) [] cs = _
      rw [led_wide5, e3, List.append_assoc, List.append_assoc, List.append_assoc]
      rfl
theorem laidW_none (sp : Int → Int) (h : Nat) (b : Int) (o : List Ins) : laidW sp h ⟨b, o, none⟩ = flush h o := List.append_nil _
def endW (S : WSt) : List LB := S.1 ++ (if S.2.2 = [] then [] else [⟨S.2.1, S.2.2, none⟩])
theorem lay_runW (sp : Int → Int) (h : Nat) (gs : List Int) : ∀ (cs : List Cell) (k : Int) (S : WSt), S.2.1 ≤ k → (S.2.1 = k → S.2.2 = []) →
    layWS sp h (endW (runW gs k cs S)) = layWS sp h S.1 ++ wgo sp h gs k S.2.2 cs
  | [], k, S, hb, h0 => by
    show layWS sp h (endW S) = layWS sp h S.1 ++ flush h S.2.2
    unfold endW
    by_cases e : S.2.2 = []
    · rw [if_pos e, e, flush_nil, List.append_nil, List.append_nil]
    · rw [if_neg e, layWS_snoc, laidW_none]
  | c :: cs, k, S, hb, h0 => by
    show layWS sp h (endW (runW gs (k + 1) cs (wStep gs k c S))) = _
    have key : ∃ S2 : WSt, wStep gs k c S = wCell k c S2 ∧ S2.2.1 ≤ k ∧ S2.2.2 = (if k ∈ gs then [] else S.2.2) ∧ layWS sp h S2.1 = layWS sp h S.1 ++ (if k ∈ gs then flush h S.2.2 else []) := by
      refine ⟨if k ∈ gs ∧ S.2.1 < k then wKey k S else S, rfl, ?_⟩
      by_cases hk : k ∈ gs
      · rw [if_pos hk, if_pos hk]
        by_cases hlt : S.2.1 < k
        · rw [if_pos ⟨hk, hlt⟩]
          refine ⟨Int.le_refl _, rfl, ?_⟩
          show layWS sp h (S.1 ++ [_]) = _
          rw [layWS_snoc, laidW_none]
        · rw [if_neg (fun z => hlt z.2)]
          have eo := h0 (by omega)
          refine ⟨hb, eo, ?_⟩
          rw [eo, flush_nil, List.append_nil]
      · rw [if_neg hk, if_neg hk, if_neg (fun z => hk z.1)]
        exact ⟨hb, rfl, (List.append_nil _).symm⟩
    obtain ⟨S2, e1, e2, e3, e4⟩ := key
    rw [e1]
    cases c with
    | ins j i =>
      have ih := lay_runW sp h gs cs (k + 1) (wCell k (.ins j i) S2) (by show S2.2.1 ≤ k + 1; omega) (fun z => absurd z (by show ¬ S2.2.1 = k + 1; omega))
      rw [ih]
      show layWS sp h S2.1 ++ wgo sp h gs (k + 1) (S2.2.2 ++ [i]) cs = layWS sp h S.1 ++ ((if k ∈ gs then flush h S.2.2 else []) ++ wgo sp h gs (k + 1) ((if k ∈ gs then [] else S.2.2) ++ [i]) cs)
      rw [e4, e3, List.append_assoc]
    | _ =>
      rw [lay_runW sp h gs cs (k + 1) _ (Int.le_refl _) (fun _ => rfl)]
      show layWS sp h (S2.1 ++ [⟨S2.2.1, S2.2.2, some _⟩]) ++ wgo sp h gs (k + 1) [] cs = layWS sp h S.1 ++ ((if k ∈ gs then flush h S.2.2 else []) ++ (flush h (if k ∈ gs then [] else S.2.2) ++ led sp h _ :: wgo sp h gs (k + 1) [] cs))
      rw [layWS_snoc, e4]
      show layWS sp h S.1 ++ (if k ∈ gs then flush h S.2.2 else []) ++ (flush h S2.2.2 ++ [led sp h _]) ++ wgo sp h gs (k + 1) [] cs = _
      rw [e3, List.append_assoc, List.append_assoc, List.append_assoc]
      rfl
/-- sp is asked for the goals alone -/
theorem led_congr {sp sp' : Int → Int} (h : Int) {c : Cell} (e : ∀ g, c.goal? = some g → sp g = sp' g) : led sp h c = led sp' h c := by
  cases c with
  | turn g w => exact congrArg (Cell.turn · h) (e g rfl)
  | goto g => exact congrArg Cell.goto (e g rfl)
  | _ => rfl
theorem wgo_congr {sp sp' : Int → Int} (h : Nat) (gs : List Int) : ∀ (cs : List Cell) (k : Int) (own : List Ins), (∀ c ∈ cs, ∀ g, c.goal? = some g → sp g = sp' g) → wgo sp h gs k own cs = wgo sp' h gs k own cs
  | [], _, _, _ => rfl
  | c :: cs, k, own, e => by
    have ih := fun own => wgo_congr h gs cs (k + 1) own fun d hd => e d (List.mem_cons_of_mem _ hd)
    have el := led_congr (sp := sp) (sp' := sp') h (e c List.mem_cons_self)
    cases c with
    | ins j i =>
      show _ ++ wgo sp h gs (k + 1) _ cs = _ ++ wgo sp' h gs (k + 1) _ cs
      rw [ih]
    | _ =>
      show _ ++ (_ ++ led sp h _ :: wgo sp h gs (k + 1) [] cs) = _ ++ (_ ++ led sp' h _ :: wgo sp' h gs (k + 1) [] cs)
      rw [ih, el]
end Hue
set_option Elab.async false
set_option linter.all false
set_option maxRecDepth 100000
set_option maxHeartbeats 4000000
set_option autoImplicit false
namespace Hue
open PySem L2
/-! ### where the goals lie -/
def cost (h : Int) : Cell → Int
  | .ins _ _ => h
  | _ => 1
def pairsB (h : Int) : List Blk → Int → List (Int × Int)
  | [], _ => []
  | B :: Bs, a => (B.keys.map fun k => (k, a)) ++ pairsB h Bs (a + B.many h)
def pairsW (h : Int) : List LB → Int → List (Int × Int)
  | [], _ => []
  | B :: Bs, a => (B.beg, a) :: pairsW h Bs (a + B.many h)
def putAll : List (Int × Int) → List (Key × V) → List (Key × V)
  | [], kvs => kvs
  | p :: ps, kvs => putAll ps (putK kvs (Sum.inl p.1 : Key) (.int p.2))
theorem putAll_app (ps qs : List (Int × Int)) : ∀ kvs, putAll (ps ++ qs) kvs = putAll qs (putAll ps kvs) := by
  induction ps with
  | nil => exact fun _ => rfl
  | cons p ps ih => exact fun kvs => ih _
theorem putKeys_all (a : Int) : ∀ (ks : List Int) kvs, putKeys a ks kvs = putAll (ks.map fun k => (k, a)) kvs
  | [], _ => rfl
  | _ :: ks, _ => putKeys_all a ks _
theorem spotsK_all (h : Int) : ∀ (Bs : List Blk) (a : Int) kvs, spotsK h Bs a kvs = putAll (pairsB h Bs a) kvs
  | [], _, _ => rfl
  | B :: Bs, a, kvs => by
    show spotsK h Bs (a + B.many h) (putKeys a B.keys kvs) = putAll (_ ++ _) kvs
    rw [putAll_app, spotsK_all h Bs, putKeys_all]
theorem spotsW_all (h : Int) : ∀ (Bs : List LB) (a : Int) kvs, spotsW h Bs a kvs = putAll (pairsW h Bs a) kvs
  | [], _, _ => rfl
  | B :: Bs, a, kvs => spotsW_all h Bs _ _
theorem val_all (f : Int → Int) : ∀ (ps : List (Int × Int)) (kvs : List (Key × V)), (∀ p ∈ ps, p.2 = f p.1) → (∀ g v, valV kvs (Sum.inl g : Key) = some v → v = .int (f g)) → (∀ g v, valV (putAll ps kvs) (Sum.inl g : Key) = some v → v = .int (f g)) ∧ ∀ g, (g ∈ ps.map (·.1) ∨ (valV kvs (Sum.inl g : Key)).isSome = true) → (valV (putAll ps kvs) (Sum.inl g : Key)).isSome = true
  | [], kvs, _, h2 => ⟨h2, fun g hg => hg.elim (fun z => by cases z) id⟩
  | p :: ps, kvs, h1, h2 => by
    have hp := h1 p List.mem_cons_self
    obtain ⟨i1, i2⟩ := val_all f ps (putK kvs (Sum.inl p.1 : Key) (.int p.2)) (fun q hq => h1 q (List.mem_cons_of_mem _ hq)) (fun g v e => by
      rw [valV_put] at e
      by_cases hg : (Sum.inl g : Key) = Sum.inl p.1
      · rw [if_pos hg] at e
        rw [← Option.some.inj e, hp, Sum.inl.inj hg]
      · rw [if_neg hg] at e
        exact h2 g v e)
    refine ⟨i1, fun g hg => i2 g ?_⟩
    by_cases e : g = p.1
    · refine .inr ?_
      rw [valV_put, if_pos (by rw [e])] <;> rfl
    · rcases hg with hg | hg
      · rcases List.mem_cons.mp hg with z | z
        · exact absurd z e
        · exact .inl z
      · refine .inr ?_
        rw [valV_put, if_neg fun z => e (Sum.inl.inj z)]
        exact hg
theorem val_is (f : Int → Int) {ps : List (Int × Int)} (h1 : ∀ p ∈ ps, p.2 = f p.1) {g : Int} (hg : g ∈ ps.map (·.1)) : valV (putAll ps []) (Sum.inl g : Key) = some (.int (f g)) := by
  obtain ⟨i1, i2⟩ := val_all f ps [] h1 fun g v e => by cases e
  have := i2 g (.inl hg)
  cases e : valV (putAll ps []) (Sum.inl g : Key) with
  | none =>
    rw [e] at this
    cases this
  | some v => rw [i1 g v e]
theorem sumMany_snoc (h : Int) (Bs : List Blk) (B : Blk) : sumMany h (Bs ++ [B]) = sumMany h Bs + B.many h := by
  unfold sumMany
  rw [List.map_append, List.sum_append]
  simp
theorem pairsB_snoc (h : Int) (B : Blk) : ∀ (Bs : List Blk) (a : Int), pairsB h (Bs ++ [B]) a = pairsB h Bs a ++ (B.keys.map fun k => (k, a + sumMany h Bs))
  | [], a => by
    show (B.keys.map fun k => (k, a)) ++ [] = _
    rw [List.append_nil]
    show _ = B.keys.map fun k => (k, a + 0)
    rw [Int.add_zero]
  | C :: Bs, a => by
    show _ ++ pairsB h (Bs ++ [B]) (a + C.many h) = (_ ++ pairsB h Bs (a + C.many h)) ++ _
    rw [pairsB_snoc h B Bs, List.append_assoc]
    have e : sumMany h (C :: Bs) = C.many h + sumMany h Bs := by
      unfold sumMany
      rw [List.map_cons, List.sum_cons]
    rw [e, Int.add_assoc]
def sumW (h : Int) (Bs : List LB) : Int := (Bs.map fun B => B.many h).sum
theorem sumW_snoc (h : Int) (Bs : List LB) (B : LB) : sumW h (Bs ++ [B]) = sumW h Bs + B.many h := by
  unfold sumW
  rw [List.map_append, List.sum_append]
  simp
theorem pairsW_snoc (h : Int) (B : LB) : ∀ (Bs : List LB) (a : Int), pairsW h (Bs ++ [B]) a = pairsW h Bs a ++ [(B.beg, a + sumW h Bs)]
  | [], a => by
    show [(B.beg, a)] = [(B.beg, a + 0)]
    rw [Int.add_zero]
  | C :: Bs, a => by
    show _ :: pairsW h (Bs ++ [B]) (a + C.many h) = (_ :: pairsW h Bs (a + C.many h)) ++ _
    rw [pairsW_snoc h B Bs]
    have e : sumW h (C :: Bs) = C.many h + sumW h Bs := by
      unfold sumW
      rw [List.map_cons, List.sum_cons]
    rw [e, Int.add_assoc] <;> rfl
/-- what holds while the blocks are made: f tells where each address lies -/
structure KeyI (f : Int → Int) (h : Int) (gs : List Int) (k : Int) (S : List Blk × Blk) : Prop where
  s : S.2.settle = none
  t : f k = sumMany h S.1 + S.2.owns.length * h
  p : ∀ p ∈ pairsB h S.1 0, p.2 = f p.1
  c : ∀ key ∈ S.2.keys, sumMany h S.1 = f key
  m : ∀ g ∈ gs, 0 ≤ g → g < k → g ∈ (pairsB h S.1 0).map (·.1) ∨ g ∈ S.2.keys
theorem many_none {B : Blk} (h : Int) (e : B.settle = none) : B.many h = B.owns.length * h := by
  unfold Blk.many
  rw [e]
  exact Int.add_zero _
theorem keys_run (f : Int → Int) (h : Int) (gs : List Int) : ∀ (cs : List Cell) (k : Int) (S : List Blk × Blk), 0 ≤ k → KeyI f h gs k S → (∀ (j : Nat) c, cs[j]? = some c → f (k + j + 1) = f (k + j) + cost h c) → KeyI f h gs (k + cs.length) (runB gs k cs S)
  | [], k, S, _, I, _ => by
    show KeyI f h gs (k + ((0 : Nat) : Int)) S
    rw [show k + ((0 : Nat) : Int) = k from Int.add_zero k]
    exact I
  | c :: cs, k, S, hk0, I, hf => by
    have hf0 := hf 0 c rfl
    have hf0 : f (k + 1) = f k + cost h c := by
      have e : k + ((0 : Nat) : Int) = k := Int.add_zero k
      rw [e] at hf0
      exact hf0
    have ih := keys_run f h gs cs (k + 1) (stepB gs k c S) (by omega) ?_ fun j d e => by
      have := hf (j + 1) d e
      have e1 : k + ((j + 1 : Nat) : Int) = k + 1 + j := by omega
      rw [e1] at this
      exact this
    · have e : k + ((c :: cs).length : Nat) = k + 1 + (cs.length : Nat) := by
        rw [List.length_cons]
        omega
      rw [e]
      exact ih
    -- the key, then the cell
    have key : ∃ S2 : List Blk × Blk, stepB gs k c S = cellB c S2 ∧ S2.2.settle = none ∧ f k = sumMany h S2.1 + S2.2.owns.length * h ∧ (∀ p ∈ pairsB h S2.1 0, p.2 = f p.1) ∧ (∀ key ∈ S2.2.keys, sumMany h S2.1 = f key) ∧ ∀ g ∈ gs, 0 ≤ g → g < k + 1 → g ∈ (pairsB h S2.1 0).map (·.1) ∨ g ∈ S2.2.keys := by
      refine ⟨if k ∈ gs then keyB k S else S, rfl, ?_⟩
      by_cases hk : k ∈ gs
      · rw [if_pos hk]
        unfold keyB
        by_cases hb : S.2.bare = true
        · rw [if_pos hb]
          have eo : S.2.owns = [] := by
            unfold Blk.bare at hb
            exact List.isEmpty_iff.mp (Bool.and_eq_true_iff.mp hb).1
          refine ⟨I.s, I.t, I.p, fun key hkey => ?_, fun g hg g0 g1 => ?_⟩
          · rcases List.mem_append.mp hkey with z | z
            · exact I.c key z
            · have e : key = k := by simpa using z
              have := I.t
              rw [eo] at this
              rw [e, this]
              show _ = _ + ((0 : Nat) : Int) * h
              simp
          · by_cases e : g = k
            · exact .inr (List.mem_append_right _ (by simp [e]))
            · rcases I.m g hg g0 (by omega) with z | z
              · exact .inl z
              · exact .inr (List.mem_append_left _ z)
        · rw [if_neg hb]
          have em := many_none h I.s
          refine ⟨rfl, ?_, fun p hp => ?_, fun key hkey => ?_, fun g hg g0 g1 => ?_⟩
          · show f k = sumMany h (S.1 ++ [S.2]) + ((0 : Nat) : Int) * h
            rw [sumMany_snoc, em, I.t]
            simp
          · rw [pairsB_snoc] at hp
            rcases List.mem_append.mp hp with z | z
            · exact I.p p z
            · obtain ⟨key, h1, rfl⟩ := List.mem_map.mp z
              show 0 + sumMany h S.1 = f key
              rw [Int.zero_add]
              exact I.c key h1
          · have e : key = k := by simpa using hkey
            show sumMany h (S.1 ++ [S.2]) = f key
            rw [sumMany_snoc, em, e, I.t]
          · by_cases e : g = k
            · exact .inr (by simp [e])
            · refine .inl ?_
              rw [pairsB_snoc, List.map_append]
              rcases I.m g hg g0 (by omega) with z | z
              · exact List.mem_append_left _ z
              · refine List.mem_append_right _ ?_
                rw [List.map_map]
                exact List.mem_map.mpr ⟨g, z, rfl⟩
      · rw [if_neg hk]
        refine ⟨I.s, I.t, I.p, I.c, fun g hg g0 g1 => I.m g hg g0 ?_⟩
        have : g ≠ k := fun e => hk (e ▸ hg)
        omega
    obtain ⟨S2, e1, q1, q2, q3, q4, q5⟩ := key
    rw [e1]
    cases c with
    | ins j i =>
      refine ⟨q1, ?_, q3, q4, q5⟩
      rw [hf0, q2]
      show _ + h = _ + ((S2.2.owns ++ [i]).length : Nat) * h
      rw [List.length_append]
      show _ + h = _ + ((S2.2.owns.length + 1 : Nat) : Int) * h
      push_cast
      rw [Int.add_mul, Int.one_mul, Int.add_assoc] <;> rfl
    | _ =>
      refine ⟨rfl, ?_, fun p hp => ?_, (fun key hkey => by cases hkey), fun g hg g0 g1 => .inl ?_⟩
      · rw [hf0, q2]
        show _ + 1 = sumMany h (S2.1 ++ [_]) + ((0 : Nat) : Int) * h
        rw [sumMany_snoc]
        show _ + 1 = sumMany h S2.1 + (S2.2.owns.length * h + 1) + ((0 : Nat) : Int) * h
        simp [Int.add_assoc]
      · have hp : p ∈ pairsB h (S2.1 ++ [_]) 0 := hp
        rw [pairsB_snoc] at hp
        rcases List.mem_append.mp hp with z | z
        · exact q3 p z
        · obtain ⟨key, h1, rfl⟩ := List.mem_map.mp z
          show 0 + sumMany h S2.1 = f key
          rw [Int.zero_add]
          exact q4 key h1
      · show g ∈ (pairsB h (S2.1 ++ [_]) 0).map (·.1)
        rw [pairsB_snoc, List.map_append]
        rcases q5 g hg g0 g1 with z | z
        · exact List.mem_append_left _ z
        · refine List.mem_append_right _ ?_
          rw [List.map_map]
          exact List.mem_map.mpr ⟨g, z, rfl⟩
/-- the same of the law's own blocks -/
structure KeyW (f : Int → Int) (h : Int) (gs : List Int) (k : Int) (S : WSt) : Prop where
  t : f k = sumW h S.1 + S.2.2.length * h
  b : f S.2.1 = sumW h S.1
  l : S.2.1 ≤ k
  e : S.2.1 = k → S.2.2 = []
  p : ∀ p ∈ pairsW h S.1 0, p.2 = f p.1
  m : ∀ g ∈ gs, 0 ≤ g → g < k → g ∈ (pairsW h S.1 0).map (·.1) ∨ (S.2.1 = g ∧ S.2.2 ≠ [])
theorem keys_runW (f : Int → Int) (h : Int) (gs : List Int) : ∀ (cs : List Cell) (k : Int) (S : WSt), 0 ≤ k → KeyW f h gs k S → (∀ (j : Nat) c, cs[j]? = some c → f (k + j + 1) = f (k + j) + cost h c) → KeyW f h gs (k + cs.length) (runW gs k cs S)
  | [], k, S, _, I, _ => by
    show KeyW f h gs (k + ((0 : Nat) : Int)) S
    rw [show k + ((0 : Nat) : Int) = k from Int.add_zero k]
    exact I
  | c :: cs, k, S, hk0, I, hf => by
    have hf0 := hf 0 c rfl
    have hf0 : f (k + 1) = f k + cost h c := by
      have e : k + ((0 : Nat) : Int) = k := Int.add_zero k
      rw [e] at hf0
      exact hf0
    have ih := keys_runW f h gs cs (k + 1) (wStep gs k c S) (by omega) ?_ fun j d e => by
      have := hf (j + 1) d e
      have e1 : k + ((j + 1 : Nat) : Int) = k + 1 + j := by omega
      rw [e1] at this
      exact this
    · have e : k + ((c :: cs).length : Nat) = k + 1 + (cs.length : Nat) := by
        rw [List.length_cons]
        omega
      rw [e]
      exact ih
    have key : ∃ S2 : WSt, wStep gs k c S = wCell k c S2 ∧ f k = sumW h S2.1 + S2.2.2.length * h ∧ f S2.2.1 = sumW h S2.1 ∧ S2.2.1 ≤ k ∧ (∀ p ∈ pairsW h S2.1 0, p.2 = f p.1) ∧ (∀ g ∈ gs, 0 ≤ g → g < k + 1 → g ∈ (pairsW h S2.1 0).map (·.1) ∨ S2.2.1 = g ∧ (g = k ∨ S2.2.2 ≠ [])) := by
      refine ⟨if k ∈ gs ∧ S.2.1 < k then wKey k S else S, rfl, ?_⟩
      by_cases hk : k ∈ gs ∧ S.2.1 < k
      · rw [if_pos hk]
        have em : (⟨S.2.1, S.2.2, none⟩ : LB).many h = S.2.2.length * h := by
          show h * _ + 0 = _
          rw [Int.add_zero, Int.mul_comm]
        refine ⟨?_, ?_, Int.le_refl _, fun p hp => ?_, fun g hg g0 g1 => ?_⟩
        · show f k = sumW h (S.1 ++ [_]) + ((0 : Nat) : Int) * h
          rw [sumW_snoc, em, I.t]
          simp
        · show f k = sumW h (S.1 ++ [_])
          rw [sumW_snoc, em, I.t]
        · have hp : p ∈ pairsW h (S.1 ++ [_]) 0 := hp
          rw [pairsW_snoc] at hp
          rcases List.mem_append.mp hp with z | z
          · exact I.p p z
          · have e : p = (S.2.1, 0 + sumW h S.1) := by simpa using z
            rw [e]
            show 0 + sumW h S.1 = f S.2.1
            rw [Int.zero_add, I.b]
        · by_cases e : g = k
          · exact .inr ⟨e.symm, .inl e⟩
          · refine .inl ?_
            show g ∈ (pairsW h (S.1 ++ [_]) 0).map (·.1)
            rw [pairsW_snoc, List.map_append]
            rcases I.m g hg g0 (by omega) with z | z
            · exact List.mem_append_left _ z
            · refine List.mem_append_right _ ?_
              rw [← z.1]
              exact List.mem_cons_self
      · rw [if_neg hk]
        refine ⟨I.t, I.b, I.l, I.p, fun g hg g0 g1 => ?_⟩
        by_cases e : g = k
        · have hb : ¬ S.2.1 < k := fun z => hk ⟨e ▸ hg, z⟩
          have := I.l
          exact .inr ⟨by omega, .inl e⟩
        · rcases I.m g hg g0 (by omega) with z | z
          · exact .inl z
          · exact .inr ⟨z.1, .inr z.2⟩
    obtain ⟨S2, e1, q1, q2, q3, q4, q5⟩ := key
    rw [e1]
    cases c with
    | ins j i =>
      refine ⟨?_, q2, by show S2.2.1 ≤ k + 1; omega, fun z => absurd z (by show ¬ S2.2.1 = k + 1; omega), q4, fun g hg g0 g1 => ?_⟩
      · rw [hf0, q1]
        show _ + h = _ + ((S2.2.2 ++ [i]).length : Nat) * h
        rw [List.length_append]
        show _ + h = _ + ((S2.2.2.length + 1 : Nat) : Int) * h
        push_cast
        rw [Int.add_mul, Int.one_mul, Int.add_assoc] <;> rfl
      · rcases q5 g hg g0 g1 with z | z
        · exact .inl z
        · exact .inr ⟨z.1, by show S2.2.2 ++ [i] ≠ []; simp⟩
    | _ =>
      refine ⟨?_, ?_, Int.le_refl _, fun _ => rfl, fun p hp => ?_, fun g hg g0 g1 => .inl ?_⟩
      · rw [hf0, q1]
        show _ + 1 = sumW h (S2.1 ++ [_]) + ((0 : Nat) : Int) * h
        rw [sumW_snoc]
        show _ + 1 = sumW h S2.1 + (h * S2.2.2.length + 1) + ((0 : Nat) : Int) * h
        rw [Int.mul_comm h]
        simp [Int.add_assoc]
      · show f (k + 1) = sumW h (S2.1 ++ [_])
        rw [hf0, q1, sumW_snoc]
        show _ + 1 = sumW h S2.1 + (h * S2.2.2.length + 1)
        rw [Int.mul_comm h, Int.add_assoc]
      · have hp : p ∈ pairsW h (S2.1 ++ [_]) 0 := hp
        rw [pairsW_snoc] at hp
        rcases List.mem_append.mp hp with z | z
        · exact q4 p z
        · have e : p = (S2.2.1, 0 + sumW h S2.1) := by simpa using z
          rw [e]
          show 0 + sumW h S2.1 = f S2.2.1
          rw [Int.zero_add, q2]
      · show g ∈ (pairsW h (S2.1 ++ [_]) 0).map (·.1)
        rw [pairsW_snoc, List.map_append]
        rcases q5 g hg g0 g1 with z | z
        · exact List.mem_append_left _ z
        · refine List.mem_append_right _ ?_
          rw [← z.1]
          exact List.mem_cons_self
end Hue
set_option Elab.async false
set_option linter.all false
set_option maxRecDepth 100000
set_option maxHeartbeats 4000000
set_option autoImplicit false
namespace Hue
open PySem L2
def posF (h : Int) (cs : List Cell) (k : Int) : Int := ((cs.take k.toNat).map (cost h)).sum
def wideOf (h : Nat) (cs : List Cell) : List Cell := wgo (posF h cs) h (goals cs) 0 [] cs
def GoalsIn (cs : List Cell) : Prop := ∀ c ∈ cs, ∀ g, c.goal? = some g → 0 ≤ g ∧ g < cs.length
theorem posF_0 (h : Int) (cs : List Cell) : posF h cs 0 = 0 := rfl
theorem posF_step (h : Int) (cs : List Cell) (j : Nat) (c : Cell) (e : cs[j]? = some c) : posF h cs (0 + j + 1) = posF h cs (0 + j) + cost h c := by
  unfold posF
  have e1 : (0 + (j : Int) + 1).toNat = j + 1 := by omega
  have e2 : (0 + (j : Int)).toNat = j := by omega
  rw [e1, e2, take_map _ e, List.sum_append]
  simp
theorem goal_mem {cs : List Cell} {c : Cell} {g : Int} (hc : c ∈ cs) (hg : c.goal? = some g) : g ∈ goals cs := List.mem_filterMap.mpr ⟨c, hc, hg⟩
theorem mem_goal {cs : List Cell} {g : Int} (hg : g ∈ goals cs) : ∃ c ∈ cs, c.goal? = some g := List.mem_filterMap.mp hg
theorem keyI (h : Int) (cs : List Cell) : KeyI (posF h cs) h (goals cs) cs.length (runB (goals cs) 0 cs ([], blk0)) := by
  have := keys_run (posF h cs) h (goals cs) cs 0 ([], blk0) (Int.le_refl _) ⟨rfl, by
    rw [posF_0]
    show (0 : Int) = 0 + ((0 : Nat) : Int) * h
    simp, (fun p hp => by cases hp), (fun k hk => by cases hk), fun g _ g0 g1 => by omega⟩ (posF_step h cs)
  rw [Int.zero_add] at this
  exact this
theorem pairs_ok (h : Int) (cs : List Cell) : ∀ p ∈ pairsB h (blocksOf cs) 0, p.2 = posF h cs p.1 := fun p hp => by
  have I := keyI h cs
  unfold blocksOf at hp
  rw [pairsB_snoc] at hp
  rcases List.mem_append.mp hp with z | z
  · exact I.p p z
  · obtain ⟨key, h1, rfl⟩ := List.mem_map.mp z
    show 0 + _ = _
    rw [Int.zero_add]
    exact I.c key h1
theorem spots_p {h : Int} {cs : List Cell} {g : Int} (hg : g ∈ goals cs) (g0 : 0 ≤ g) (g1 : g < cs.length) : valV (spotsK h (blocksOf cs) 0 []) (Sum.inl g : Key) = some (.int (posF h cs g)) := by
  have I := keyI h cs
  rw [spotsK_all]
  refine val_is (posF h cs) (pairs_ok h cs) ?_
  unfold blocksOf
  rw [pairsB_snoc, List.map_append]
  rcases I.m g hg g0 g1 with z | z
  · exact List.mem_append_left _ z
  · refine List.mem_append_right _ ?_
    rw [List.map_map]
    exact List.mem_map.mpr ⟨g, z, rfl⟩
theorem keyW (h : Int) (cs : List Cell) : KeyW (posF h cs) h (goals cs) cs.length (runW (goals cs) 0 cs ([], 0, [])) := by
  have := keys_runW (posF h cs) h (goals cs) cs 0 ([], 0, []) (Int.le_refl _) ⟨by
    rw [posF_0]
    show (0 : Int) = 0 + ((0 : Nat) : Int) * h
    simp, posF_0 h cs, Int.le_refl _, (fun _ => rfl), (fun p hp => by cases hp), fun g _ g0 g1 => by omega⟩ (posF_step h cs)
  rw [Int.zero_add] at this
  exact this
theorem pairsW_ok (h : Int) (cs : List Cell) : ∀ p ∈ pairsW h (weaveBlocks cs) 0, p.2 = posF h cs p.1 := fun p hp => by
  have I := keyW h cs
  unfold weaveBlocks at hp
  by_cases e : (runW (goals cs) 0 cs ([], 0, [])).2.2 = []
  · rw [if_pos e, List.append_nil] at hp
    exact I.p p hp
  · rw [if_neg e, pairsW_snoc] at hp
    rcases List.mem_append.mp hp with z | z
    · exact I.p p z
    · rw [List.mem_singleton.mp z]
      show 0 + _ = _
      rw [Int.zero_add, I.b]
theorem spots_w {h : Int} {cs : List Cell} {g : Int} (hg : g ∈ goals cs) (g0 : 0 ≤ g) (g1 : g < cs.length) : valV (spotsW h (weaveBlocks cs) 0 []) (Sum.inl g : Key) = some (.int (posF h cs g)) := by
  have I := keyW h cs
  rw [spotsW_all]
  refine val_is (posF h cs) (pairsW_ok h cs) ?_
  unfold weaveBlocks
  rcases I.m g hg g0 g1 with z | ⟨z1, z2⟩
  · by_cases e : (runW (goals cs) 0 cs ([], 0, [])).2.2 = []
    · rw [if_pos e, List.append_nil]
      exact z
    · rw [if_neg e, pairsW_snoc, List.map_append]
      exact List.mem_append_left _ z
  · rw [if_neg z2, pairsW_snoc, List.map_append]
    refine List.mem_append_right _ ?_
    rw [← z1]
    exact List.mem_cons_self
theorem layP_wide {h : Nat} {cs : List Cell} (hg : GoalsIn cs) : layP h (blocksOf cs) = wideOf h cs := by
  unfold layP
  show layS (spOf h (blocksOf cs)) h (blocksOf cs) = _
  have e := lay_run (spOf h (blocksOf cs)) h (goals cs) cs 0 ([], blk0) rfl
  have e0 : layS (spOf h (blocksOf cs)) h (blocksOf cs) = [] ++ wgo (spOf h (blocksOf cs)) h (goals cs) 0 [] cs := e
  rw [e0, List.nil_append]
  unfold wideOf
  refine wgo_congr h (goals cs) cs 0 [] fun c hc g hcg => ?_
  obtain ⟨g0, g1⟩ := hg c hc g hcg
  unfold spOf
  rw [spots_p (goal_mem hc hcg) g0 g1]
theorem layW_wide {h : Nat} {cs : List Cell} (hg : GoalsIn cs) : layW h (weaveBlocks cs) = wideOf h cs := by
  unfold layW
  have e := lay_runW (spW h (weaveBlocks cs)) h (goals cs) cs 0 ([], 0, []) (Int.le_refl _) (fun _ => rfl)
  have e0 : layWS (spW h (weaveBlocks cs)) h (weaveBlocks cs) = [] ++ wgo (spW h (weaveBlocks cs)) h (goals cs) 0 [] cs := e
  have e1 : (weaveBlocks cs).flatMap (laidW (spW h (weaveBlocks cs)) h) = layWS (spW h (weaveBlocks cs)) h (weaveBlocks cs) := rfl
  rw [e1, e0, List.nil_append]
  unfold wideOf
  refine wgo_congr h (goals cs) cs 0 [] fun c hc g hcg => ?_
  obtain ⟨g0, g1⟩ := hg c hc g hcg
  unfold spW
  rw [spots_w (goal_mem hc hcg) g0 g1]
/-- how many cells -/
theorem wgo_len (sp : Int → Int) (h : Nat) (gs : List Int) : ∀ (cs : List Cell) (k : Int) (own : List Ins), ((wgo sp h gs k own cs).length : Int) = h * own.length + (cs.map (cost h)).sum
  | [], k, own => by
    show ((flush h own).length : Int) = _
    rw [flush_len]
    simp
  | c :: cs, k, own => by
    have fl : ∀ (b : Prop) [Decidable b], (((if b then flush h own else []).length : Nat) : Int) + h * ((if b then ([] : List Ins) else own).length : Nat) = h * own.length := fun b _ => by
      by_cases z : b
      · rw [if_pos z, if_pos z, flush_len]
        simp
      · rw [if_neg z, if_neg z]
        simp
    cases c with
    | ins j i =>
      show (((_ : List Cell) ++ wgo sp h gs (k + 1) (_ ++ [i]) cs).length : Int) = _
      rw [List.length_append, List.map_cons, List.sum_cons]
      push_cast
      rw [wgo_len sp h gs cs, List.length_append]
      have := fl (k ∈ gs)
      show _ + ((h : Int) * ((_ + 1 : Nat) : Int) + _) = _ + ((h : Int) + _)
      push_cast
      rw [Int.mul_add, Int.mul_one]
      omega
    | _ =>
      show (((_ : List Cell) ++ (flush h _ ++ _ :: wgo sp h gs (k + 1) [] cs)).length : Int) = _
      rw [List.length_append, List.length_append, List.length_cons, List.map_cons, List.sum_cons]
      push_cast
      rw [wgo_len sp h gs cs, flush_len]
      have := fl (k ∈ gs)
      show _ + (_ + ((h : Int) * ((0 : Nat) : Int) + _ + 1)) = _ + ((1 : Int) + _)
      push_cast
      omega
end Hue
set_option Elab.async false
set_option linter.all false
set_option maxRecDepth 100000
set_option maxHeartbeats 4000000
set_option autoImplicit false
namespace Hue
open PySem L2
/-! ### sizes -/
def tot (h : Int) (cs : List Cell) : Int := (cs.map (cost h)).sum
theorem posF_end (h : Int) (cs : List Cell) : posF h cs cs.length = tot h cs := by
  unfold posF tot
  have e : ((cs.length : Nat) : Int).toNat = cs.length := rfl
  rw [e, List.take_length]
theorem sumMany_is (h : Int) (cs : List Cell) : sumMany h (blocksOf cs) = tot h cs := by
  have I := keyI h cs
  unfold blocksOf
  rw [sumMany_snoc, many_none h I.s, ← I.t, posF_end]
theorem wide_len (h : Nat) (cs : List Cell) : ((wideOf h cs).length : Int) = tot h cs := by
  unfold wideOf tot
  rw [wgo_len]
  show (h : Int) * ((0 : Nat) : Int) + _ = _
  simp
def okOwn (is : List Ins) : Prop := ∀ i ∈ is, i.its.all okV = true
structure SizeI (cs0 : List Cell) (n : Nat) (S : List Blk × Blk) : Prop where
  k : totKeys S.1 + S.2.keys.length ≤ n
  d : S.1.length ≤ 2 * n
  o : S.2.owns.length ≤ n
  oo : ∀ B ∈ S.1, B.owns.length ≤ n
  v : okOwn S.2.owns
  vv : ∀ B ∈ S.1, okOwn B.owns
  s : S.2.settle = none
  ss : ∀ B ∈ S.1, ∀ c, B.settle = some c → ∃ c0 ∈ cs0, c = wide5 c0 ∧ ∀ j i, c0 ≠ .ins j i
theorem totKeys_snoc (Bs : List Blk) (B : Blk) : totKeys (Bs ++ [B]) = totKeys Bs + B.keys.length := by
  unfold totKeys
  rw [List.map_append, List.sum_append]
  simp
theorem size_run (cs0 : List Cell) (gs : List Int) : ∀ (cs : List Cell) (k : Int) (n : Nat) (S : List Blk × Blk), (∀ c ∈ cs, c ∈ cs0) → (∀ c ∈ cs, c.its.all okV = true) → SizeI cs0 n S → SizeI cs0 (n + cs.length) (runB gs k cs S)
  | [], _, _, _, _, _, I => I
  | c :: cs, k, n, S, hm, hv, I => by
    have ih := size_run cs0 gs cs (k + 1) (n + 1) (stepB gs k c S) (fun d hd => hm d (List.mem_cons_of_mem _ hd)) (fun d hd => hv d (List.mem_cons_of_mem _ hd)) ?_
    · have e : n + (c :: cs).length = n + 1 + cs.length := by
        rw [List.length_cons]
        omega
      rw [e]
      exact ih
    have key : ∃ S2 : List Blk × Blk, stepB gs k c S = cellB c S2 ∧ totKeys S2.1 + S2.2.keys.length ≤ n + 1 ∧ S2.1.length ≤ 2 * n + 1 ∧ S2.2.owns.length ≤ n ∧ (∀ B ∈ S2.1, B.owns.length ≤ n) ∧ okOwn S2.2.owns ∧ (∀ B ∈ S2.1, okOwn B.owns) ∧ S2.2.settle = none ∧ ∀ B ∈ S2.1, ∀ c, B.settle = some c → ∃ c0 ∈ cs0, c = wide5 c0 ∧ ∀ j i, c0 ≠ .ins j i := by
      refine ⟨if k ∈ gs then keyB k S else S, rfl, ?_⟩
      have ik := I.k
      have idd := I.d
      by_cases hk : k ∈ gs
      · rw [if_pos hk]
        unfold keyB
        by_cases hb : S.2.bare = true
        · rw [if_pos hb]
          exact ⟨by show totKeys S.1 + (S.2.keys ++ [k]).length ≤ _; rw [List.length_append]; show totKeys S.1 + (S.2.keys.length + 1) ≤ _; omega, Nat.le_succ_of_le idd, I.o, I.oo, I.v, I.vv, I.s, I.ss⟩
        · rw [if_neg hb]
          refine ⟨by show totKeys (S.1 ++ [S.2]) + 1 ≤ _; rw [totKeys_snoc]; omega, by show (S.1 ++ [S.2]).length ≤ _; rw [List.length_append]; show S.1.length + 1 ≤ _; omega, Nat.zero_le _, fun B hB => ?_, (fun i hi => by cases hi), fun B hB => ?_, rfl, fun B hB c hc => ?_⟩
          · rcases List.mem_append.mp hB with z | z
            · exact I.oo B z
            · rw [List.mem_singleton.mp z]
              exact I.o
          · rcases List.mem_append.mp hB with z | z
            · exact I.vv B z
            · rw [List.mem_singleton.mp z]
              exact I.v
          · rcases List.mem_append.mp hB with z | z
            · exact I.ss B z c hc
            · rw [List.mem_singleton.mp z, I.s] at hc
              cases hc
      · rw [if_neg hk]
        exact ⟨Nat.le_succ_of_le ik, Nat.le_succ_of_le idd, I.o, I.oo, I.v, I.vv, I.s, I.ss⟩
    obtain ⟨S2, e1, q1, q2, q3, q4, q5, q6, q7, q8⟩ := key
    rw [e1]
    cases c with
    | ins j i =>
      refine ⟨q1, by show S2.1.length ≤ _; omega, by show (S2.2.owns ++ [i]).length ≤ _; rw [List.length_append]; show _ + 1 ≤ _; omega, fun B hB => Nat.le_succ_of_le (q4 B hB), fun x hx => ?_, q6, q7, q8⟩
      rcases List.mem_append.mp hx with z | z
      · exact q5 x z
      · rw [List.mem_singleton.mp z]
        exact hv (.ins j i) List.mem_cons_self
    | _ =>
      refine ⟨by show totKeys (S2.1 ++ [_]) + 0 ≤ _; rw [totKeys_snoc]; show totKeys S2.1 + S2.2.keys.length + 0 ≤ _; omega, by show (S2.1 ++ [_]).length ≤ _; rw [List.length_append]; show S2.1.length + 1 ≤ _; omega, Nat.zero_le _, fun B hB => ?_, (fun i hi => by cases hi), fun B hB => ?_, rfl, fun B hB c hc => ?_⟩
      · rcases List.mem_append.mp hB with z | z
        · exact Nat.le_succ_of_le (q4 B z)
        · rw [List.mem_singleton.mp z]
          exact Nat.le_succ_of_le q3
      · rcases List.mem_append.mp hB with z | z
        · exact q6 B z
        · rw [List.mem_singleton.mp z]
          exact q5
      · rcases List.mem_append.mp hB with z | z
        · exact q8 B z c hc
        · rw [List.mem_singleton.mp z] at hc
          refine ⟨_, hm _ List.mem_cons_self, (Option.some.inj hc).symm, fun j i z => by cases z⟩
theorem sizeI {cs : List Cell} (hv : ∀ c ∈ cs, c.its.all okV = true) : SizeI cs cs.length (runB (goals cs) 0 cs ([], blk0)) := by
  have := size_run cs (goals cs) cs 0 0 ([], blk0) (fun c hc => hc) hv ⟨Nat.le_refl _, Nat.le_refl _, Nat.le_refl _, (fun B hB => by cases hB), (fun B hB => by cases hB), (fun B hB => by cases hB), rfl, (fun B hB => by cases hB)⟩
  rw [Nat.zero_add] at this
  exact this
theorem keys_le {Bs : List Blk} {B : Blk} (h : B ∈ Bs) : B.keys.length ≤ totKeys Bs := by
  induction Bs with
  | nil => cases h
  | cons C Bs ih =>
    have e : totKeys (C :: Bs) = C.keys.length + totKeys Bs := by
      unfold totKeys
      rw [List.map_cons, List.sum_cons]
    rcases List.mem_cons.mp h with z | z
    · rw [e, z]
      omega
    · have := ih z
      omega
theorem wide5_goal {c : Cell} : (wide5 c).goal? = c.goal? := by cases c <;> rfl
theorem layOk {h : Nat} {cs : List Cell} (hv : ∀ c ∈ cs, c.its.all okV = true) (hg : GoalsIn cs) (hl : cs.length ≤ 4000) (hm : tot h cs ≤ 4000) : LayOk h (blocksOf cs) := by
  have I := sizeI hv
  have ik := I.k
  have idd := I.d
  have io := I.o
  refine ⟨fun B hB => ?_, ?_, ?_, ?_, fun B hB c hc => ?_⟩
  · unfold blocksOf at hB
    rcases List.mem_append.mp hB with z | z
    · have := keys_le z
      have := I.oo B z
      exact ⟨by omega, by omega, I.vv B z⟩
    · rw [List.mem_singleton.mp z]
      exact ⟨by omega, by omega, I.v⟩
  · unfold blocksOf
    rw [List.length_append]
    show _ + 1 ≤ _
    omega
  · unfold blocksOf
    rw [totKeys_snoc]
    omega
  · rw [layP_wide hg]
    have := wide_len h cs
    omega
  · unfold blocksOf at hB
    rcases List.mem_append.mp hB with z | z
    · obtain ⟨c0, h0, rfl, hn⟩ := I.ss B z c hc
      refine ⟨by cases c0 <;> rfl, fun j i e => ?_, fun g hgg => ?_⟩
      · cases c0 <;> first | exact hn _ _ rfl | cases e
      · rw [wide5_goal] at hgg
        obtain ⟨g0, g1⟩ := hg c0 h0 g hgg
        exact ⟨_, spots_p (goal_mem h0 hgg) g0 g1⟩
    · rw [List.mem_singleton.mp z, I.s] at hc
      cases hc
end Hue
set_option Elab.async false
set_option linter.all false
set_option maxRecDepth 100000
set_option maxHeartbeats 4000000
set_option autoImplicit false
namespace Hue
open PySem L2
structure SizeW (cs0 : List Cell) (n : Nat) (S : WSt) : Prop where
  o : S.2.2.length ≤ n
  oo : ∀ B ∈ S.1, B.own.length ≤ n
  ss : ∀ B ∈ S.1, ∀ c, B.last = some c → c ∈ cs0 ∧ ∀ j i, c ≠ .ins j i
theorem size_runW (cs0 : List Cell) (gs : List Int) : ∀ (cs : List Cell) (k : Int) (n : Nat) (S : WSt), (∀ c ∈ cs, c ∈ cs0) → SizeW cs0 n S → SizeW cs0 (n + cs.length) (runW gs k cs S)
  | [], _, _, _, _, I => I
  | c :: cs, k, n, S, hm, I => by
    have ih := size_runW cs0 gs cs (k + 1) (n + 1) (wStep gs k c S) (fun d hd => hm d (List.mem_cons_of_mem _ hd)) ?_
    · have e : n + (c :: cs).length = n + 1 + cs.length := by
        rw [List.length_cons]
        omega
      rw [e]
      exact ih
    have key : ∃ S2 : WSt, wStep gs k c S = wCell k c S2 ∧ S2.2.2.length ≤ n ∧ (∀ B ∈ S2.1, B.own.length ≤ n) ∧ ∀ B ∈ S2.1, ∀ c, B.last = some c → c ∈ cs0 ∧ ∀ j i, c ≠ .ins j i := by
      refine ⟨if k ∈ gs ∧ S.2.1 < k then wKey k S else S, rfl, ?_⟩
      by_cases hk : k ∈ gs ∧ S.2.1 < k
      · rw [if_pos hk]
        refine ⟨Nat.zero_le _, fun B hB => ?_, fun B hB c hc => ?_⟩
        · rcases List.mem_append.mp hB with z | z
          · exact I.oo B z
          · rw [List.mem_singleton.mp z]
            exact I.o
        · rcases List.mem_append.mp hB with z | z
          · exact I.ss B z c hc
          · rw [List.mem_singleton.mp z] at hc
            cases hc
      · rw [if_neg hk]
        exact ⟨I.o, I.oo, I.ss⟩
    obtain ⟨S2, e1, q1, q2, q3⟩ := key
    rw [e1]
    cases c with
    | ins j i => exact ⟨by show (S2.2.2 ++ [i]).length ≤ _; rw [List.length_append]; show _ + 1 ≤ _; omega, fun B hB => Nat.le_succ_of_le (q2 B hB), q3⟩
    | _ =>
      refine ⟨Nat.zero_le _, fun B hB => ?_, fun B hB c hc => ?_⟩
      · rcases List.mem_append.mp hB with z | z
        · exact Nat.le_succ_of_le (q2 B z)
        · rw [List.mem_singleton.mp z]
          exact Nat.le_succ_of_le q1
      · rcases List.mem_append.mp hB with z | z
        · exact q3 B z c hc
        · rw [List.mem_singleton.mp z] at hc
          rw [← Option.some.inj hc]
          exact ⟨hm _ List.mem_cons_self, fun j i z => by cases z⟩
theorem wlayOk {h : Nat} {cs : List Cell} (hg : GoalsIn cs) (hl : cs.length ≤ 4000) (hm : tot h cs ≤ 4000) : WLayOk h (weaveBlocks cs) := by
  have I := size_runW cs (goals cs) cs 0 0 ([], 0, []) (fun c hc => hc) ⟨Nat.le_refl _, (fun B hB => by cases hB), (fun B hB => by cases hB)⟩
  rw [Nat.zero_add] at I
  have mem : ∀ B ∈ weaveBlocks cs, B ∈ (runW (goals cs) 0 cs ([], 0, [])).1 ∨ (B.own = (runW (goals cs) 0 cs ([], 0, [])).2.2 ∧ B.last = none) := fun B hB => by
    unfold weaveBlocks at hB
    rcases List.mem_append.mp hB with z | z
    · exact .inl z
    · by_cases e : (runW (goals cs) 0 cs ([], 0, [])).2.2 = []
      · rw [if_pos e] at z
        cases z
      · rw [if_neg e] at z
        rw [List.mem_singleton.mp z]
        exact .inr ⟨rfl, rfl⟩
  refine ⟨fun B hB => ?_, ?_, fun B hB c hc => ?_⟩
  · rcases mem B hB with z | ⟨z, _⟩
    · exact Nat.le_trans (I.oo B z) hl
    · rw [z]
      exact Nat.le_trans I.o hl
  · rw [layW_wide hg]
    have := wide_len h cs
    omega
  · rcases mem B hB with z | ⟨_, z⟩
    · obtain ⟨h1, h2⟩ := I.ss B z c hc
      refine ⟨h2, fun g hgg => ?_⟩
      obtain ⟨g0, g1⟩ := hg c h1 g hgg
      exact ⟨_, spots_w (goal_mem h1 hgg) g0 g1⟩
    · rw [z] at hc
      cases hc
/-! ### a code of one hue, and the wide one -/
theorem goalsIn {C : Code} (h : C.Ok) : GoalsIn C.cells := fun c hc g hg => by
  have := h.cn c hc
  cases c with
  | turn g' w =>
    cases hg
    exact ⟨this.1, this.2.1⟩
  | goto g' =>
    cases hg
    exact this
  | _ => cases hg
theorem tot_le {h : Int} (h1 : 1 ≤ h) : ∀ cs : List Cell, tot h cs ≤ h * cs.length
  | [] => by
    show (0 : Int) ≤ h * ((0 : Nat) : Int)
    simp
  | c :: cs => by
    have ih := tot_le h1 cs
    unfold tot at ih ⊢
    rw [List.map_cons, List.sum_cons, List.length_cons]
    push_cast
    rw [Int.mul_add, Int.mul_one]
    cases c with
    | ins j i =>
      show h + _ ≤ _
      omega
    | _ =>
      show (1 : Int) + _ ≤ _
      omega
theorem tot_ge {h : Int} (h1 : 1 ≤ h) : ∀ cs : List Cell, (cs.length : Int) ≤ tot h cs
  | [] => Int.le_refl _
  | c :: cs => by
    have ih := tot_ge h1 cs
    unfold tot at ih ⊢
    rw [List.map_cons, List.sum_cons, List.length_cons]
    push_cast
    cases c with
    | ins j i =>
      show _ ≤ h + _
      omega
    | _ =>
      show _ ≤ (1 : Int) + _
      omega
end Hue
set_option Elab.async false
set_option linter.all false
set_option maxRecDepth 100000
set_option maxHeartbeats 4000000
set_option autoImplicit false
namespace Hue
open PySem L2
theorem posF_in {h : Int} (h1 : 1 ≤ h) {cs : List Cell} {g : Int} (g0 : 0 ≤ g) (g1 : g < cs.length) : 0 ≤ posF h cs g ∧ posF h cs g < tot h cs := by
  obtain ⟨n, rfl⟩ := Int.eq_ofNat_of_zero_le g0
  have e : posF h cs (n : Int) = tot h (cs.take n) := rfl
  have e2 : tot h cs = tot h (cs.take n) + tot h (cs.drop n) := by
    unfold tot
    rw [← List.sum_append, ← List.map_append, List.take_append_drop]
  have a := tot_ge h1 (cs.take n)
  have b := tot_ge h1 (cs.drop n)
  have c : (cs.drop n).length = cs.length - n := List.length_drop
  rw [e, e2]
  omega
theorem flush_mem {h : Nat} {is : List Ins} {c : Cell} (hc : c ∈ flush h is) : ∃ x i, x < h ∧ i ∈ is ∧ c = .ins (x : Nat) i := by
  unfold flush at hc
  obtain ⟨x, hx, h2⟩ := List.mem_flatMap.mp hc
  obtain ⟨i, hi, rfl⟩ := List.mem_map.mp h2
  exact ⟨x, i, List.mem_range.mp hx, hi, rfl⟩
theorem wgo_mem (sp : Int → Int) (h : Nat) (gs : List Int) : ∀ (cs : List Cell) (k : Int) (own : List Ins) (c : Cell), c ∈ wgo sp h gs k own cs → (∃ x i, x < h ∧ (i ∈ own ∨ ∃ j, Cell.ins j i ∈ cs) ∧ c = .ins (x : Nat) i) ∨ ∃ d ∈ cs, (∀ j i, d ≠ .ins j i) ∧ c = led sp h d
  | [], _, own, c, hc => by
    obtain ⟨x, i, h1, h2, h3⟩ := flush_mem hc
    exact .inl ⟨x, i, h1, .inl h2, h3⟩
  | d :: cs, k, own, c, hc => by
    have fl : ∀ (b : Prop) [Decidable b] (e : Cell), e ∈ (if b then flush h own else []) → ∃ x i, x < h ∧ i ∈ own ∧ e = .ins (x : Nat) i := fun b _ e he => by
      by_cases z : b
      · rw [if_pos z] at he
        exact flush_mem he
      · rw [if_neg z] at he
        cases he
    have ow : ∀ (b : Prop) [Decidable b] (i : Ins), i ∈ (if b then ([] : List Ins) else own) → i ∈ own := fun b _ i hi => by
      by_cases z : b
      · rw [if_pos z] at hi
        cases hi
      · rw [if_neg z] at hi
        exact hi
    cases d with
    | ins j i0 =>
      rcases List.mem_append.mp (show c ∈ _ ++ wgo sp h gs (k + 1) (_ ++ [i0]) cs from hc) with z | z
      · obtain ⟨x, i, h1, h2, h3⟩ := fl _ _ z
        exact .inl ⟨x, i, h1, .inl h2, h3⟩
      · rcases wgo_mem sp h gs cs (k + 1) _ c z with ⟨x, i, h1, h2, h3⟩ | ⟨d, h1, h2, h3⟩
        · refine .inl ⟨x, i, h1, ?_, h3⟩
          rcases h2 with h2 | ⟨j2, h2⟩
          · rcases List.mem_append.mp h2 with w | w
            · exact .inl (ow _ _ w)
            · rw [List.mem_singleton.mp w]
              exact .inr ⟨j, List.mem_cons_self⟩
          · exact .inr ⟨j2, List.mem_cons_of_mem _ h2⟩
        · exact .inr ⟨d, List.mem_cons_of_mem _ h1, h2, h3⟩
    | _ =>
      rcases List.mem_append.mp (show c ∈ _ ++ (flush h _ ++ led sp h _ :: wgo sp h gs (k + 1) [] cs) from hc) with z | z
      · obtain ⟨x, i, h1, h2, h3⟩ := fl _ _ z
        exact .inl ⟨x, i, h1, .inl h2, h3⟩
      · rcases List.mem_append.mp z with z | z
        · obtain ⟨x, i, h1, h2, h3⟩ := flush_mem z
          exact .inl ⟨x, i, h1, .inl (ow _ _ h2), h3⟩
        · rcases List.mem_cons.mp z with z | z
          · exact .inr ⟨_, List.mem_cons_self, (fun j i z => by cases z), z⟩
          · rcases wgo_mem sp h gs cs (k + 1) _ c z with ⟨x, i, h1, h2, h3⟩ | ⟨d, h1, h2, h3⟩
            · refine .inl ⟨x, i, h1, ?_, h3⟩
              rcases h2 with h2 | ⟨j2, h2⟩
              · cases h2
              · exact .inr ⟨j2, List.mem_cons_of_mem _ h2⟩
            · exact .inr ⟨d, List.mem_cons_of_mem _ h1, h2, h3⟩
/-- the wide code -/
def wideC (C : Code) (vs : List Int) : Code := ⟨vs, C.size, wideOf vs.length C.cells, C.bank⟩
theorem wide_ok {C : Code} (hC : C.Ok) {vs : List Int} (hv : VotesOk vs) (hm : tot vs.length C.cells ≤ 4000) : (wideC C vs).Ok := by
  have v1 := hv.1
  have h1 : (1 : Int) ≤ (vs.length : Nat) := by omega
  have wl := wide_len vs.length C.cells
  have tg := tot_ge h1 C.cells
  have c1 := hC.c.1
  refine ⟨hv, hC.s, hC.b, hC.bn, ⟨by show 1 ≤ (wideOf vs.length C.cells).length; omega, by show (wideOf vs.length C.cells).length ≤ 4000; omega⟩, fun c hc => ?_⟩
  have gi := goalsIn hC
  rcases wgo_mem _ _ _ C.cells 0 [] c hc with ⟨x, i, hx, h2, rfl⟩ | ⟨d, hd, hn, rfl⟩
  · rcases h2 with h2 | ⟨j, h2⟩
    · cases h2
    · have := hC.cn _ h2
      exact ⟨Int.natCast_nonneg _, by show ((x : Nat) : Int) < (vs.length : Nat); omega, this.2.2⟩
  · have hdo := hC.cn _ hd
    have gd := gi d hd
    cases d with
    | ins j i => exact absurd rfl (hn j i)
    | shw p w => exact ⟨hdo.1, hdo.2.1, h1, Int.le_refl _⟩
    | turn g w =>
      obtain ⟨g0, g1⟩ := gd g rfl
      obtain ⟨p0, p1⟩ := posF_in h1 g0 g1
      exact ⟨p0, by show posF _ _ g < ((wideOf vs.length C.cells).length : Nat); omega, h1, Int.le_refl _⟩
    | take b w => exact ⟨hdo.1, h1, Int.le_refl _⟩
    | goto g =>
      obtain ⟨g0, g1⟩ := gd g rfl
      obtain ⟨p0, p1⟩ := posF_in h1 g0 g1
      exact ⟨p0, by show posF _ _ g < ((wideOf vs.length C.cells).length : Nat); omega⟩
    | stop => trivial
    | mark => trivial
end Hue
set_option Elab.async false
set_option linter.all false
set_option maxRecDepth 100000
set_option maxHeartbeats 4000000
set_option autoImplicit false
namespace Hue
open PySem L2
/-! ### narrow after wide -/
def widC (sp : Int → Int) (h : Int) (x : Int) : Cell → Cell
  | .ins _ i => .ins x i
  | c => led sp h c
theorem kept_app (x : Int) (a b : List Cell) : keptOf x (a ++ b) = keptOf x a ++ keptOf x b := by
  unfold keptOf
  rw [List.filter_append]
theorem kept_same (x : Int) (is : List Ins) : keptOf x (is.map (Cell.ins x)) = is.map (Cell.ins x) := by
  unfold keptOf
  rw [List.filter_eq_self]
  intro c hc
  obtain ⟨i, _, rfl⟩ := List.mem_map.mp hc
  exact decide_eq_true rfl
theorem kept_other {x y : Int} (h : y ≠ x) (is : List Ins) : keptOf x (is.map (Cell.ins y)) = [] := by
  unfold keptOf
  rw [List.filter_eq_nil_iff]
  intro c hc
  obtain ⟨i, _, rfl⟩ := List.mem_map.mp hc
  show ¬ decide (y = x) = true
  simpa using h
theorem kept_flush (x : Nat) (is : List Ins) : ∀ h : Nat, keptOf x (flush h is) = if x < h then is.map (Cell.ins (x : Int)) else []
  | 0 => rfl
  | h + 1 => by
    rw [flush_succ, kept_app, kept_flush x is h]
    by_cases e : x = h
    · subst e
      rw [if_neg (Nat.lt_irrefl _), if_pos (Nat.lt_succ_self _), kept_same] <;> rfl
    · rw [kept_other (by omega), List.append_nil]
      by_cases z : x < h
      · rw [if_pos z, if_pos (by omega)]
      · rw [if_neg z, if_neg (by omega)]
theorem kept_led (sp : Int → Int) (h x : Int) {c : Cell} (hn : ∀ j i, c ≠ .ins j i) : isKept x (led sp h c) = true := by
  cases c with
  | ins j i => exact absurd rfl (hn j i)
  | _ => rfl
theorem kept_wgo (sp : Int → Int) {h x : Nat} (hx : x < h) (gs : List Int) : ∀ (cs : List Cell) (k : Int) (own : List Ins), keptOf x (wgo sp h gs k own cs) = own.map (Cell.ins (x : Int)) ++ cs.map (widC sp h x)
  | [], k, own => by
    show keptOf x (flush h own) = _ ++ []
    rw [kept_flush, if_pos hx, List.append_nil]
  | c :: cs, k, own => by
    have fl : ∀ (b : Prop) [Decidable b], keptOf x (if b then flush h own else []) ++ (if b then ([] : List Ins) else own).map (Cell.ins (x : Int)) = own.map (Cell.ins (x : Int)) := fun b _ => by
      by_cases z : b
      · rw [if_pos z, if_pos z, kept_flush, if_pos hx]
        exact List.append_nil _
      · rw [if_neg z, if_neg z] <;> rfl
    cases c with
    | ins j i =>
      show keptOf x (_ ++ wgo sp h gs (k + 1) (_ ++ [i]) cs) = _
      rw [kept_app, kept_wgo sp hx gs cs, List.map_append, ← List.append_assoc, ← List.append_assoc, fl (k ∈ gs), List.append_assoc]
      rfl
    | _ =>
      show keptOf x (_ ++ (flush h _ ++ led sp h _ :: wgo sp h gs (k + 1) [] cs)) = _
      rw [kept_app, kept_app, ← List.append_assoc, kept_flush, if_pos hx, fl (k ∈ gs)]
      congr 1
      unfold keptOf
      rw [List.filter_cons_of_pos (kept_led sp h x (by intro j i z; cases z))]
      exact congrArg (_ :: ·) (kept_wgo sp hx gs cs (k + 1) [])
theorem wgo_goal (sp : Int → Int) (h : Nat) (gs : List Int) {k : Int} (hk : k ∈ gs) (own : List Ins) (cs : List Cell) : wgo sp h gs k own cs = flush h own ++ wgo sp h gs k [] cs := by
  cases cs with
  | nil =>
    show flush h own = flush h own ++ flush h []
    rw [flush_nil, List.append_nil]
  | cons c cs =>
    cases c with
    | ins j i =>
      show (if k ∈ gs then flush h own else []) ++ wgo sp h gs (k + 1) ((if k ∈ gs then [] else own) ++ [i]) cs = flush h own ++ ((if k ∈ gs then flush h [] else []) ++ wgo sp h gs (k + 1) ((if k ∈ gs then [] else []) ++ [i]) cs)
      rw [if_pos hk, if_pos hk, if_pos hk, if_pos hk, flush_nil] <;> rfl
    | _ =>
      show (if k ∈ gs then flush h own else []) ++ (flush h (if k ∈ gs then [] else own) ++ led sp h _ :: wgo sp h gs (k + 1) [] cs) = flush h own ++ ((if k ∈ gs then flush h [] else []) ++ (flush h (if k ∈ gs then [] else []) ++ led sp h _ :: wgo sp h gs (k + 1) [] cs))
      rw [if_pos hk, if_pos hk, if_pos hk, if_pos hk, flush_nil] <;> rfl
theorem wgo_split (sp : Int → Int) (h : Nat) (gs : List Int) : ∀ (j : Nat) (cs : List Cell) (k : Int) (own : List Ins), k + j ∈ gs → j ≤ cs.length → wgo sp h gs k own cs = wgo sp h gs k own (cs.take j) ++ wgo sp h gs (k + j) [] (cs.drop j)
  | 0, cs, k, own, hk, _ => by
    have e : k + ((0 : Nat) : Int) = k := Int.add_zero k
    rw [e] at hk ⊢
    exact wgo_goal sp h gs hk own cs
  | j + 1, [], _, _, _, hl => by cases hl
  | j + 1, c :: cs, k, own, hk, hl => by
    have e : k + ((j + 1 : Nat) : Int) = k + 1 + (j : Nat) := by omega
    rw [e] at hk ⊢
    have ih := fun own => wgo_split sp h gs j cs (k + 1) own hk (Nat.le_of_succ_le_succ hl)
    cases c with
    | ins _ i =>
      show _ ++ wgo sp h gs (k + 1) _ cs = (_ ++ wgo sp h gs (k + 1) _ (cs.take j)) ++ _
      rw [ih, List.append_assoc] <;> rfl
    | _ =>
      show _ ++ (_ ++ _ :: wgo sp h gs (k + 1) [] cs) = (_ ++ (_ ++ _ :: wgo sp h gs (k + 1) [] (cs.take j))) ++ _
      rw [ih, List.append_assoc, List.append_assoc] <;> rfl
/-- a code as the law makes it: one hue, widths 1 -/
def OneCell : Cell → Prop
  | .ins j _ => j = 0
  | .shw _ w => w = 1
  | .turn _ w => w = 1
  | .take _ w => w = 1
  | _ => True
theorem oneCell {c : Cell} {m nb n : Int} (h : c.Ok 1 m nb n) : OneCell c := by
  cases c with
  | ins j i =>
    have := h.1
    have := h.2.1
    show j = 0
    omega
  | shw p w => exact Int.le_antisymm h.2.2.2 h.2.2.1
  | turn p w => exact Int.le_antisymm h.2.2.2 h.2.2.1
  | take p w => exact Int.le_antisymm h.2.2 h.2.1
  | _ => trivial
theorem spot_wide {h x : Nat} (hx : x < h) {cs : List Cell} {g : Int} (hg : g ∈ goals cs) (g0 : 0 ≤ g) (g1 : g < cs.length) : spotAt x (wideOf h cs) (posF h cs g) = g := by
  obtain ⟨n, rfl⟩ := Int.eq_ofNat_of_zero_le g0
  have hn : n ≤ cs.length := by omega
  have e := wgo_split (posF h cs) h (goals cs) n cs 0 [] (by rw [Int.zero_add]; exact hg) hn
  have el := wgo_len (posF h cs) h (goals cs) (cs.take n) 0 []
  have ep : posF h cs (n : Int) = ((cs.take n).map (cost h)).sum := rfl
  have el : ((wgo (posF h cs) h (goals cs) 0 [] (cs.take n)).length : Int) = posF h cs (n : Int) := by
    rw [el, ep]
    show (h : Int) * ((0 : Nat) : Int) + _ = _
    simp
  unfold spotAt wideOf
  rw [e]
  have et : (posF h cs (n : Int)).toNat = (wgo (posF h cs) h (goals cs) 0 [] (cs.take n)).length := by omega
  rw [et, List.take_left, kept_wgo _ hx]
  show (([] ++ (cs.take n).map _).length : Int) = n
  rw [List.nil_append, List.length_map, List.length_take]
  omega
theorem narrow_wide {h x : Nat} (hx : x < h) {cs : List Cell} (hg : GoalsIn cs) (h1 : ∀ c ∈ cs, OneCell c) : narrow x (wideOf h cs) = cs := by
  unfold narrow
  have ek : keptOf x (wideOf h cs) = cs.map (widC (posF h cs) h x) := kept_wgo _ hx _ cs 0 []
  rw [ek, List.map_map]
  refine (List.map_congr_left fun c hc => ?_).trans (List.map_id cs)
  have o := h1 c hc
  have gi := hg c hc
  show narC (spotAt x (wideOf h cs)) (widC (posF h cs) h x c) = c
  cases c with
  | ins j i =>
    have o : j = 0 := o
    rw [o] <;> rfl
  | shw p w =>
    have o : w = 1 := o
    rw [o] <;> rfl
  | take p w =>
    have o : w = 1 := o
    rw [o] <;> rfl
  | turn g w =>
    have o : w = 1 := o
    obtain ⟨g0, g1⟩ := gi g rfl
    show Cell.turn (spotAt x (wideOf h cs) (posF h cs g)) 1 = _
    rw [spot_wide hx (goal_mem hc rfl) g0 g1, o]
  | goto g =>
    obtain ⟨g0, g1⟩ := gi g rfl
    show Cell.goto (spotAt x (wideOf h cs) (posF h cs g)) = _
    rw [spot_wide hx (goal_mem hc rfl) g0 g1]
  | stop => rfl
  | mark => rfl
theorem notFar_wide {h x : Nat} (hx : x < h) {cs : List Cell} (hg : GoalsIn cs) (hl : 1 ≤ cs.length) : NotFar x (wideOf h cs) := by
  have ek : keptOf x (wideOf h cs) = cs.map (widC (posF h cs) h x) := kept_wgo _ hx _ cs 0 []
  refine ⟨fun z => ?_, fun c hc g hcg => ?_⟩
  · rw [ek] at z
    have := congrArg List.length z
    rw [List.length_map] at this
    have : cs.length = 0 := this
    omega
  · rw [ek] at hc ⊢
    obtain ⟨d, hd, rfl⟩ := List.mem_map.mp hc
    rw [List.length_map]
    have gi := hg d hd
    have fin : ∀ g', d.goal? = some g' → g = posF h cs g' → spotAt x (wideOf h cs) g ≠ ((cs.length : Nat) : Int) := fun g' e1 e2 => by
      obtain ⟨g0, g1⟩ := gi g' e1
      rw [e2, spot_wide hx (goal_mem hd e1) g0 g1]
      omega
    cases d with
    | turn g' w => exact fin g' rfl (Option.some.inj hcg).symm
    | goto g' => exact fin g' rfl (Option.some.inj hcg).symm
    | _ => cases hcg
end Hue
set_option Elab.async false
set_option linter.all false
set_option maxRecDepth 100000
set_option maxHeartbeats 4000000
set_option autoImplicit false
namespace Hue
open PySem L2
/-! ### runs put together -/
theorem runR_stop (C : Code) {R : RS} (h : R.ms.state ≠ ("running" : Str)) : ∀ k, runR C k R = R
  | 0 => rfl
  | k + 1 => if_neg h
theorem runR_go (C : Code) {R : RS} (h : R.ms.state = ("running" : Str)) (k : Nat) : runR C (k + 1) R = runR C k (stepR C R) := if_pos h
theorem runR_add (C : Code) : ∀ (a b : Nat) (R : RS), runR C (a + b) R = runR C b (runR C a R)
  | 0, b, R => by
    rw [Nat.zero_add] <;> rfl
  | a + 1, b, R => by
    by_cases h : R.ms.state = ("running" : Str)
    · have e : a + 1 + b = a + b + 1 := by omega
      rw [e, runR_go C h, runR_go C h, runR_add C a b]
    · rw [runR_stop C h, runR_stop C h, runR_stop C h]
theorem goodRun_stop (C : Code) {R : RS} (h : R.ms.state ≠ ("running" : Str)) : ∀ k, GoodRun C k R
  | 0 => trivial
  | k + 1 => fun z => absurd z h
theorem goodRun_add (C : Code) : ∀ (a b : Nat) (R : RS), GoodRun C a R → GoodRun C b (runR C a R) → GoodRun C (a + b) R
  | 0, b, R, _, h => by
    rw [Nat.zero_add]
    exact h
  | a + 1, b, R, h1, h2 => by
    by_cases h : R.ms.state = ("running" : Str)
    · have e : a + 1 + b = a + b + 1 := by omega
      rw [e]
      rw [runR_go C h] at h2
      exact fun _ => ⟨(h1 h).1, goodRun_add C a b _ (h1 h).2 h2⟩
    · exact goodRun_stop C h _
theorem goodRun_less (C : Code) : ∀ (a b : Nat) (R : RS), a ≤ b → GoodRun C b R → GoodRun C a R
  | 0, _, _, _, _ => trivial
  | a + 1, 0, _, h, _ => by omega
  | a + 1, b + 1, R, h, g => fun z => ⟨(g z).1, goodRun_less C a b _ (by omega) (g z).2⟩
end Hue
set_option Elab.async false
set_option linter.all false
set_option maxRecDepth 100000
set_option maxHeartbeats 4000000
set_option autoImplicit false
namespace Hue
open PySem L2
/-! ### one step -/
theorem stepR_ins {C : Code} {hues : List HueV} {S : MS} {p : Nat} {x : Int} {i : Ins} (hp : S.at_ = (p : Int)) (hc : C.cells[p]? = some (.ins x i)) :
    stepR C ⟨hues, S⟩ = ⟨hues.set x.toNat (doneP C.size ((hues[x.toNat]?).getD hue0) i), { S with steps := S.steps + 1, at_ := (p : Int) + 1 }⟩ := by
  have hl := (List.getElem?_eq_some_iff.mp hc).1
  unfold stepR
  rw [if_neg (show ¬ (C.cells.length : Int) ≤ S.at_ by omega)]
  show (match C.cells[S.at_.toNat]? with | some (.ins h i) => _ | some c => _ | none => _) = _
  have ep : S.at_.toNat = p := by omega
  rw [ep, hc, hp]
theorem stepR_end {C : Code} {hues : List HueV} {S : MS} (hp : (C.cells.length : Int) ≤ S.at_) : stepR C ⟨hues, S⟩ = ⟨hues, { S with steps := S.steps + 1, state := "caught" }⟩ := if_pos hp
end Hue
set_option Elab.async false
set_option linter.all false
set_option maxRecDepth 100000
set_option maxHeartbeats 4000000
set_option autoImplicit false
namespace Hue
open PySem L2
theorem InR.set {m : Int} {ns : List Int} (h : InR m ns) {v : Int} (v0 : 0 ≤ v) (v1 : v < m) (j : Nat) : InR m (ns.set j v) := fun n hn => by
  rcases List.mem_or_eq_of_mem_set hn with z | z
  · exact h n z
  · rw [z]
    exact ⟨v0, v1⟩
theorem worth_in {w : Str} {x y m : Int} (hm : 2 ≤ m) (x0 : 0 ≤ x) (x1 : x < m) (y0 : 0 ≤ y) (y1 : y < m) : 0 ≤ worthP w x y m ∧ worthP w x y m < m := by
  have md : ∀ z : Int, 0 ≤ z % m ∧ z % m < m := fun z => ⟨Int.emod_nonneg _ (by omega), Int.emod_lt_of_pos _ (by omega)⟩
  unfold worthP
  split
  · exact md _
  split
  · exact md _
  split
  · exact md _
  split
  · split
    · exact ⟨Int.emod_nonneg _ (by assumption), Int.lt_of_lt_of_le (Int.emod_lt_of_pos _ (by omega)) (by omega)⟩
    · omega
  split
  · split <;> omega
  · split <;> omega
theorem doneP_ok {m : Int} {nb : Nat} {X : HueV} {i : Ins} (hm : 2 ≤ m) (hX : X.Ok m nb) (hi : i.Ok m nb) : (doneP m X i).Ok m nb := by
  obtain ⟨r8, rr, cl, cc⟩ := hX
  have reg : ∀ {b : Int}, Reg b → 0 ≤ b ∧ b < X.regs.length := fun {b} hb => ⟨hb.1, by have := hb.2; omega⟩
  cases i with
  | set b n => exact ⟨by show (X.regs.set _ _).length = 8; rw [List.length_set]; exact r8, rr.set hi.2.1 hi.2.2 _, cl, cc⟩
  | offer b => exact ⟨r8, rr, cl, cc⟩
  | get b c ba le =>
    obtain ⟨hb, hc, h1, h2, h3⟩ := hi
    have f0 := Int.emod_nonneg (at0 X.regs c) (show le ≠ 0 by omega)
    have f1 := Int.emod_lt_of_pos (at0 X.regs c) (show 0 < le by omega)
    have v := at0_in cc (i := ba + at0 X.regs c % le) (by omega) (by omega)
    exact ⟨by show (X.regs.set _ _).length = 8; rw [List.length_set]; exact r8, rr.set v.1 v.2 _, cl, cc⟩
  | put b c ba le =>
    obtain ⟨hb, hc, h1, h2, h3⟩ := hi
    have v := at0_in rr (reg hb).1 (reg hb).2
    exact ⟨r8, rr, by show (X.cells.set _ _).length = nb; rw [List.length_set]; exact cl, cc.set v.1 v.2 _⟩
  | two w b c d =>
    obtain ⟨hw, hb, hc, hd⟩ := hi
    have v1 := at0_in rr (reg hc).1 (reg hc).2
    have v2 := at0_in rr (reg hd).1 (reg hd).2
    have v := worth_in (w := w) hm v1.1 v1.2 v2.1 v2.2
    exact ⟨by show (X.regs.set _ _).length = 8; rw [List.length_set]; exact r8, rr.set v.1 v.2 _, cl, cc⟩
end Hue
set_option Elab.async false
set_option linter.all false
set_option maxRecDepth 100000
set_option maxHeartbeats 4000000
set_option autoImplicit false
namespace Hue
open PySem L2
/-! ### one hue does its instructions -/
def foldD (m : Int) (X : HueV) (is : List Ins) : HueV := is.foldl (doneP m) X
/-- what a state of a run must have, but for its settles -/
structure Fine (C : Code) (R : RS) : Prop where
  n : R.hues.length = C.votes.length
  ok : ∀ X ∈ R.hues, X.Ok C.size C.bank.length
  at0 : 0 ≤ R.ms.at_
  ev : R.ms.even = true
  lf : R.ms.left.length ≤ 1000
  rw : R.ms.row.length ≤ 10000
theorem run_own {C : Code} (hs : 2 ≤ C.size) {x : Nat} : ∀ (is : List Ins) (p : Nat) (hues : List HueV) (S : MS) (X : HueV), S.at_ = (p : Int) → (∀ (j : Nat) i, is[j]? = some i → C.cells[p + j]? = some (.ins (x : Nat) i)) → hues[x]? = some X → (∀ i ∈ is, i.Ok C.size C.bank.length) → S.state = ("running" : Str) → Fine C ⟨hues, S⟩ →
    runR C is.length ⟨hues, S⟩ = ⟨hues.set x (foldD C.size X is), { S with steps := S.steps + is.length, at_ := (p : Int) + is.length }⟩ ∧ GoodRun C is.length ⟨hues, S⟩ ∧ Fine C ⟨hues.set x (foldD C.size X is), { S with steps := S.steps + is.length, at_ := (p : Int) + is.length }⟩
  | [], p, hues, S, X, hp, _, hX, _, _, hF => by
    have e : hues.set x X = hues := by
      refine List.ext_getElem? fun j => ?_
      by_cases z : x = j
      · subst z
        rw [List.getElem?_set_self (List.getElem?_eq_some_iff.mp hX).1, hX]
      · rw [List.getElem?_set_ne z]
    have eR : (⟨hues.set x (foldD C.size X []), { S with steps := S.steps + (([] : List Ins).length : Nat), at_ := (p : Int) + (([] : List Ins).length : Nat) }⟩ : RS) = ⟨hues, S⟩ := by
      show (⟨hues.set x X, { S with steps := S.steps + ((0 : Nat) : Int), at_ := (p : Int) + ((0 : Nat) : Int) }⟩ : RS) = _
      rw [e]
      obtain ⟨row, left, at_, state, steps, even⟩ := S
      have hp : at_ = (p : Int) := hp
      subst hp
      simp
    rw [eR]
    exact ⟨rfl, trivial, hF⟩
  | i :: is, p, hues, S, X, hp, hc, hX, hi, hr, hF => by
    have c0 : C.cells[p]? = some (.ins (x : Nat) i) := hc 0 i rfl
    have eS := stepR_ins (C := C) (hues := hues) (S := S) hp c0
    have eX : (hues[((x : Nat) : Int).toNat]?).getD hue0 = X := by
      show (hues[x]?).getD hue0 = X
      rw [hX] <;> rfl
    rw [eX] at eS
    have xl := (List.getElem?_eq_some_iff.mp hX).1
    have hXo := hF.ok X (List.mem_of_getElem? hX)
    have hD := doneP_ok hs hXo (hi i List.mem_cons_self)
    have hF2 : Fine C ⟨hues.set x (doneP C.size X i), { S with steps := S.steps + 1, at_ := (p : Int) + 1 }⟩ := ⟨by show (hues.set _ _).length = _; rw [List.length_set]; exact hF.n, fun Y hY => by
      rcases List.mem_or_eq_of_mem_set hY with z | z
      · exact hF.ok Y z
      · rw [z]
        exact hD, by show (0 : Int) ≤ (p : Int) + 1; omega, hF.ev, hF.lf, hF.rw⟩
    obtain ⟨r1, r2, r3⟩ := run_own hs is (p + 1) (hues.set x (doneP C.size X i)) { S with steps := S.steps + 1, at_ := (p : Int) + 1 } (doneP C.size X i) (by show (p : Int) + 1 = _; omega) (fun j i2 e => by
      have := hc (j + 1) i2 e
      have e2 : p + 1 + j = p + (j + 1) := by omega
      rw [e2]
      exact this) (List.getElem?_set_self xl) (fun j hj => hi j (List.mem_cons_of_mem _ hj)) hr hF2
    have eset : (hues.set x (doneP C.size X i)).set x (foldD C.size (doneP C.size X i) is) = hues.set x (foldD C.size X (i :: is)) := List.set_set ..
    have efin : (⟨(hues.set x (doneP C.size X i)).set x (foldD C.size (doneP C.size X i) is), { S with steps := S.steps + 1 + (is.length : Nat), at_ := ((p + 1 : Nat) : Int) + (is.length : Nat) }⟩ : RS) = ⟨hues.set x (foldD C.size X (i :: is)), { S with steps := S.steps + ((i :: is).length : Nat), at_ := (p : Int) + ((i :: is).length : Nat) }⟩ := by
      rw [eset, List.length_cons]
      have e1 : S.steps + 1 + (is.length : Int) = S.steps + ((is.length + 1 : Nat) : Int) := by omega
      have e2 : ((p + 1 : Nat) : Int) + (is.length : Int) = (p : Int) + ((is.length + 1 : Nat) : Int) := by omega
      rw [e1, e2]
    have r1 : runR C is.length ⟨hues.set x (doneP C.size X i), { S with steps := S.steps + 1, at_ := (p : Int) + 1 }⟩ = _ := r1.trans efin
    have r3 := efin ▸ r3
    refine ⟨?_, fun _ => ⟨⟨hF.n, hF.ok, hF.at0, hF.ev, hF.lf, hF.rw, fun c hcc hn => ?_⟩, by rw [eS]; exact r2⟩, r3⟩
    · show runR C (is.length + 1) ⟨hues, S⟩ = _
      rw [runR_go C hr, eS]
      exact r1
    · have ep : S.at_.toNat = p := by omega
      have hcc : C.cells[S.at_.toNat]? = some c := hcc
      rw [ep, c0] at hcc
      exact absurd (Option.some.inj hcc).symm (hn _ _)
end Hue
set_option Elab.async false
set_option linter.all false
set_option maxRecDepth 100000
set_option maxHeartbeats 4000000
set_option autoImplicit false
namespace Hue
open PySem L2
theorem flush_get (own : List Ins) : ∀ (h x j : Nat) (i : Ins), x < h → own[j]? = some i → (flush h own)[x * own.length + j]? = some (.ins (x : Nat) i)
  | 0, x, j, i, hx, _ => by omega
  | h + 1, x, j, i, hx, e => by
    have hj := (List.getElem?_eq_some_iff.mp e).1
    rw [flush_succ]
    by_cases z : x < h
    · have hl : x * own.length + j < (flush h own).length := by
        rw [flush_len]
        have : (x + 1) * own.length ≤ h * own.length := Nat.mul_le_mul_right _ z
        rw [Nat.succ_mul] at this
        omega
      rw [List.getElem?_append_left hl]
      exact flush_get own h x j i z e
    · have ex : x = h := by omega
      subst ex
      rw [List.getElem?_append_right (by rw [flush_len]; omega), flush_len]
      have e2 : x * own.length + j - x * own.length = j := by omega
      rw [e2, List.getElem?_map, e] <;> rfl
end Hue
namespace Hue
open PySem L2
/-- the hues before x have done their own lists -/
def half (h n : Nat) (X' X0 : HueV) : List HueV := List.replicate n X' ++ List.replicate (h - n) X0
theorem half_set {h n : Nat} (hn : n < h) (X' X0 : HueV) : (half h n X' X0).set n X' = half h (n + 1) X' X0 := by
  unfold half
  have e : h - n = (h - (n + 1)) + 1 := by omega
  rw [List.set_append_right _ _ (by rw [List.length_replicate]; exact Nat.le_refl _), List.length_replicate, Nat.sub_self, e, List.replicate_succ, List.set_cons_zero, List.replicate_succ', List.append_assoc]
  rfl
theorem half_get {h n : Nat} (hn : n < h) (X' X0 : HueV) : (half h n X' X0)[n]? = some X0 := by
  unfold half
  rw [List.getElem?_append_right (by rw [List.length_replicate]; exact Nat.le_refl _), List.length_replicate, Nat.sub_self, List.getElem?_replicate]
  rw [if_pos (by omega)]
end Hue
set_option Elab.async false
set_option linter.all false
set_option maxRecDepth 100000
set_option maxHeartbeats 4000000
set_option autoImplicit false
namespace Hue
open PySem L2
theorem run_half {C : Code} (hs : 2 ≤ C.size) {h : Nat} (own : List Ins) (p : Nat) (X0 : HueV) (hi : ∀ i ∈ own, i.Ok C.size C.bank.length) (hc : ∀ (j : Nat) c, (flush h own)[j]? = some c → C.cells[p + j]? = some c) : ∀ (n : Nat) (S : MS), n ≤ h → S.at_ = (p : Int) → S.state = ("running" : Str) → Fine C ⟨List.replicate h X0, S⟩ →
    runR C (n * own.length) ⟨List.replicate h X0, S⟩ = ⟨half h n (foldD C.size X0 own) X0, { S with steps := S.steps + (n * own.length : Nat), at_ := (p : Int) + (n * own.length : Nat) }⟩ ∧ GoodRun C (n * own.length) ⟨List.replicate h X0, S⟩ ∧ Fine C ⟨half h n (foldD C.size X0 own) X0, { S with steps := S.steps + (n * own.length : Nat), at_ := (p : Int) + (n * own.length : Nat) }⟩
  | 0, S, _, hp, _, hF => by
    have e : (⟨half h 0 (foldD C.size X0 own) X0, { S with steps := S.steps + ((0 * own.length : Nat) : Int), at_ := (p : Int) + ((0 * own.length : Nat) : Int) }⟩ : RS) = ⟨List.replicate h X0, S⟩ := by
      obtain ⟨row, left, at_, state, steps, even⟩ := S
      have hp : at_ = (p : Int) := hp
      subst hp
      unfold half
      simp
    rw [e, Nat.zero_mul]
    exact ⟨rfl, trivial, hF⟩
  | n + 1, S, hn, hp, hr, hF => by
    obtain ⟨r1, r2, r3⟩ := run_half hs own p X0 hi hc n S (by omega) hp hr hF
    obtain ⟨q1, q2, q3⟩ := run_own hs (x := n) own (p + n * own.length) (half h n (foldD C.size X0 own) X0) { S with steps := S.steps + (n * own.length : Nat), at_ := (p : Int) + (n * own.length : Nat) } X0 (by show (p : Int) + _ = _; omega) (fun j i e => by
      have := hc _ _ (flush_get own h n j i (by omega) e)
      rw [Nat.add_assoc]
      exact this) (half_get (by omega) _ _) hi hr r3
    have em : (n + 1) * own.length = n * own.length + own.length := Nat.succ_mul _ _
    have e3 : (⟨(half h n (foldD C.size X0 own) X0).set n (foldD C.size X0 own), { S with steps := S.steps + ((n * own.length : Nat) : Int) + (own.length : Nat), at_ := ((p + n * own.length : Nat) : Int) + (own.length : Nat) }⟩ : RS) = ⟨half h (n + 1) (foldD C.size X0 own) X0, { S with steps := S.steps + (((n + 1) * own.length : Nat) : Int), at_ := (p : Int) + (((n + 1) * own.length : Nat) : Int) }⟩ := by
      rw [half_set (by omega), em]
      have a1 : S.steps + ((n * own.length : Nat) : Int) + (own.length : Nat) = S.steps + ((n * own.length + own.length : Nat) : Int) := by omega
      have a2 : ((p + n * own.length : Nat) : Int) + (own.length : Nat) = (p : Int) + ((n * own.length + own.length : Nat) : Int) := by omega
      rw [a1, a2]
    refine ⟨?_, ?_, e3 ▸ q3⟩
    · rw [em, runR_add, r1, ← em]
      exact q1.trans e3
    · rw [em]
      exact goodRun_add C _ _ _ r2 (by rw [r1]; exact q2)
end Hue
set_option Elab.async false
set_option linter.all false
set_option maxRecDepth 100000
set_option maxHeartbeats 4000000
set_option autoImplicit false
namespace Hue
open PySem L2
theorem stepR_settle {C : Code} {h : Nat} (h1 : 1 ≤ h) {X : HueV} {S : MS} {p : Nat} {c : Cell} (hp : S.at_ = (p : Int)) (hc : C.cells[p]? = some c) (hn : ∀ j i, c ≠ .ins j i) :
    stepR C ⟨List.replicate h X, S⟩ = ⟨List.replicate h (settleU C.size c X { S with steps := S.steps + 1, at_ := (p : Int) + 1 }).1, if (settleU C.size c X { S with steps := S.steps + 1, at_ := (p : Int) + 1 }).2.2 = true then (settleU C.size c X { S with steps := S.steps + 1, at_ := (p : Int) + 1 }).2.1 else { (settleU C.size c X { S with steps := S.steps + 1, at_ := (p : Int) + 1 }).2.1 with state := "caught" }⟩ := by
  have hl := (List.getElem?_eq_some_iff.mp hc).1
  have eh : (List.replicate h X).headD hue0 = X := by
    cases h with
    | zero => omega
    | succ h => rfl
  have el : (List.replicate h X).length = h := List.length_replicate
  unfold stepR
  rw [if_neg (show ¬ (C.cells.length : Int) ≤ S.at_ by omega)]
  show (match C.cells[S.at_.toNat]? with | some (.ins h i) => _ | some c => _ | none => _) = _
  have ep : S.at_.toNat = p := by omega
  rw [ep, hc, hp]
  cases c with
  | ins j i => exact absurd rfl (hn j i)
  | _ =>
    show (⟨List.replicate (List.replicate h X).length (settleU C.size _ ((List.replicate h X).headD hue0) _).1, _⟩ : RS) = _
    rw [eh, el] <;> rfl
end Hue
set_option Elab.async false
set_option linter.all false
set_option maxRecDepth 100000
set_option maxHeartbeats 4000000
set_option autoImplicit false
namespace Hue
open PySem L2
/-! ### what a settle leaves -/
theorem settleU_hue {m : Int} {nb : Nat} {c : Cell} {X : HueV} {S : MS} (hm : 2 ≤ m) (hX : X.Ok m nb) : (settleU m c X S).1.Ok m nb := by
  have cl : HueV.Ok m nb ⟨X.regs, X.cells, none⟩ := ⟨hX.r, hX.rr, hX.c, hX.cc⟩
  unfold settleU
  cases c with
  | shw p w => cases X.slot <;> first | exact hX | exact cl
  | turn g w => cases X.slot <;> first | exact hX | exact cl
  | mark => exact cl
  | take b w => exact ⟨by show (X.regs.set _ _).length = 8; rw [List.length_set]; exact hX.r, hX.rr.set (Int.emod_nonneg _ (by omega)) (Int.emod_lt_of_pos _ (by omega)) _, hX.c, hX.cc⟩
  | _ => exact hX
theorem settleU_row (m : Int) (c : Cell) (X : HueV) (S : MS) : ∃ t : List Row, (settleU m c X S).2.1.row = S.row ++ t ∧ t.length ≤ 1 := by
  unfold settleU
  cases c with
  | shw p w => cases X.slot <;> first | exact ⟨[], (List.append_nil _).symm, Nat.zero_le _⟩ | exact ⟨[_], rfl, Nat.le_refl _⟩
  | turn g w => cases X.slot <;> exact ⟨[], (List.append_nil _).symm, Nat.zero_le _⟩
  | take b w => exact ⟨[_], rfl, Nat.le_refl _⟩
  | stop => exact ⟨[_], rfl, Nat.le_refl _⟩
  | _ => exact ⟨[], (List.append_nil _).symm, Nat.zero_le _⟩
theorem settleU_left (m : Int) (c : Cell) (X : HueV) (S : MS) : (settleU m c X S).2.1.left.length ≤ S.left.length := by
  unfold settleU
  cases c with
  | shw p w => cases X.slot <;> exact Nat.le_refl _
  | turn g w => cases X.slot <;> exact Nat.le_refl _
  | take b w =>
    show S.left.tail.length ≤ _
    rw [List.length_tail]
    omega
  | _ => exact Nat.le_refl _
theorem settleU_even {m : Int} {c : Cell} {X : HueV} {S : MS} (he : S.even = true) (h : (settleU m c X S).2.2 = true) : (settleU m c X S).2.1.even = true := by
  unfold settleU at h ⊢
  cases c with
  | shw p w =>
    cases e : X.slot with
    | none =>
      simp only [e] at h
      cases h
    | some v => exact he
  | turn g w =>
    cases e : X.slot with
    | none =>
      simp only [e] at h
      cases h
    | some v => exact he
  | _ => exact he
theorem settleU_at {m : Int} {c : Cell} {X : HueV} {S : MS} (h0 : 0 ≤ S.at_) (hg : ∀ g, c.goal? = some g → 0 ≤ g) : 0 ≤ (settleU m c X S).2.1.at_ := by
  unfold settleU
  cases c with
  | shw p w => cases X.slot <;> exact h0
  | turn g w =>
    cases X.slot with
    | none => exact h0
    | some v =>
      show 0 ≤ if v ≠ 0 then g else S.at_
      have := hg g rfl
      split <;> assumption
  | goto g => exact hg g rfl
  | _ => exact h0
/-! ### what a step leaves -/
theorem stepR_row (C : Code) (R : RS) : ∃ t : List Row, (stepR C R).ms.row = R.ms.row ++ t ∧ t.length ≤ 1 := by
  have z : ∀ {S : MS}, S.row = R.ms.row → ∃ t : List Row, S.row = R.ms.row ++ t ∧ t.length ≤ 1 := fun h => ⟨[], by rw [h, List.append_nil], Nat.zero_le _⟩
  unfold stepR
  split
  · exact z rfl
  · split
    · exact z rfl
    · rename_i c _ _
      obtain ⟨t, e1, e2⟩ := settleU_row C.size c (R.hues.headD hue0) { R.ms with steps := R.ms.steps + 1, at_ := R.ms.at_ + 1 }
      refine ⟨t, ?_, e2⟩
      dsimp only
      split <;> exact e1
    · exact z rfl
theorem stepR_even {C : Code} {R : RS} (he : R.ms.even = true) : (stepR C R).ms.even = true ∨ (stepR C R).ms.state = ("caught" : Str) := by
  unfold stepR
  split
  · exact .inl he
  · split
    · exact .inl he
    · rename_i c _ _
      dsimp only
      split
      · rename_i h
        exact .inl (settleU_even he h)
      · exact .inr rfl
    · exact .inl he
theorem runR_row (C : Code) : ∀ (n : Nat) (R : RS), ∃ t : List Row, (runR C n R).ms.row = R.ms.row ++ t
  | 0, R => ⟨[], (List.append_nil _).symm⟩
  | n + 1, R => by
    by_cases h : R.ms.state = ("running" : Str)
    · rw [runR_go C h]
      obtain ⟨t, e⟩ := runR_row C n (stepR C R)
      obtain ⟨t2, e2, _⟩ := stepR_row C R
      exact ⟨t2 ++ t, by rw [e, e2, List.append_assoc]⟩
    · rw [runR_stop C h]
      exact ⟨[], (List.append_nil _).symm⟩
theorem runR_even (C : Code) : ∀ (n : Nat) (R : RS), (R.ms.even = true ∨ R.ms.state = ("caught" : Str)) → (runR C n R).ms.even = true ∨ (runR C n R).ms.state = ("caught" : Str)
  | 0, R, h => h
  | n + 1, R, he => by
    by_cases h : R.ms.state = ("running" : Str)
    · rw [runR_go C h]
      refine runR_even C n _ ?_
      rcases he with he | he
      · exact stepR_even he
      · rw [h] at he
        exact absurd he (by decide)
    · rw [runR_stop C h]
      exact he
/-! ### the one's run is good -/
theorem good_one {C : Code} (hC : C.Ok) (h1 : C.votes.length = 1) : ∀ (N : Nat) (X : HueV) (S : MS), X.Ok C.size C.bank.length → 0 ≤ S.at_ → (S.state = ("running" : Str) → S.even = true) → S.left.length ≤ 1000 → S.row.length + N ≤ 10000 → GoodRun C N ⟨[X], S⟩
  | 0, _, _, _, _, _, _, _ => trivial
  | N + 1, X, S, hX, h0, he, hl, hr => fun hrun => by
    have hs := hC.s
    refine ⟨⟨by rw [h1] <;> rfl, (fun Y hY => by
      rw [List.mem_singleton.mp hY]
      exact hX), h0, he hrun, hl, by show S.row.length ≤ _; omega, fun c hc hn => ⟨?_, by rw [h1] <;> rfl⟩⟩, ?_⟩
    · have hco := hC.cn c (List.mem_of_getElem? hc)
      rw [h1] at hco ⊢
      cases c with
      | ins j i => exact absurd rfl (hn j i)
      | shw p w =>
        have := hco.2.2
        show w = ((1 : Nat) : Int)
        omega
      | turn g w =>
        have := hco.2.2
        show w = ((1 : Nat) : Int)
        omega
      | take b w =>
        have := hco.2
        exact ⟨by omega, hco.1⟩
      | _ => trivial
    · obtain ⟨p, hp⟩ := Int.eq_ofNat_of_zero_le h0
      by_cases hlt : p < C.cells.length
      · have hc : C.cells[p]? = some C.cells[p] := List.getElem?_eq_getElem hlt
        have hco := hC.cn _ (List.getElem_mem hlt)
        generalize C.cells[p] = c at hc hco
        by_cases hn : ∀ j i, c ≠ .ins j i
        · have e := stepR_settle (C := C) (h := 1) (X := X) (S := S) (Nat.le_refl _) hp hc hn
          have e : stepR C ⟨[X], S⟩ = _ := e
          rw [e]
          have gi := goalsIn hC c (List.mem_of_getElem? hc)
          have hh := settleU_hue (c := c) (S := { S with steps := S.steps + 1, at_ := (p : Int) + 1 }) hs.1 hX
          have ha := settleU_at (m := C.size) (c := c) (X := X) (S := { S with steps := S.steps + 1, at_ := (p : Int) + 1 }) (by show (0 : Int) ≤ (p : Int) + 1; omega) fun g hg => (gi g hg).1
          have hle := settleU_left C.size c X { S with steps := S.steps + 1, at_ := (p : Int) + 1 }
          obtain ⟨t, hro, ht⟩ := settleU_row C.size c X { S with steps := S.steps + 1, at_ := (p : Int) + 1 }
          have hev := settleU_even (m := C.size) (c := c) (X := X) (S := { S with steps := S.steps + 1, at_ := (p : Int) + 1 }) (he hrun)
          generalize settleU C.size c X { S with steps := S.steps + 1, at_ := (p : Int) + 1 } = r at hh ha hle hro hev
          by_cases hb : r.2.2 = true
          · rw [if_pos hb]
            refine good_one hC h1 N r.1 r.2.1 hh ha (fun _ => hev hb) (Nat.le_trans hle hl) ?_
            rw [hro, List.length_append]
            show S.row.length + _ + N ≤ _
            omega
          · rw [if_neg hb]
            exact goodRun_stop C (by show ("caught" : Str) ≠ ("running" : Str); decide) _
        · obtain ⟨j, i, rfl⟩ : ∃ j i, c = .ins j i := by
            cases c with
            | ins j i => exact ⟨j, i, rfl⟩
            | _ => exact absurd (fun j i z => by cases z) hn
          rw [stepR_ins hp hc]
          have hj := hco
          rw [h1] at hj
          have ej : j = 0 := by
            have := hj.1
            have := hj.2.1
            omega
          subst ej
          exact good_one hC h1 N _ _ (doneP_ok hs.1 hX hco.2.2) (by show (0 : Int) ≤ (p : Int) + 1; omega) he hl (by show S.row.length + N ≤ _; omega)
      · rw [stepR_end (by rw [hp]; omega)]
        exact goodRun_stop C (by show ("caught" : Str) ≠ ("running" : Str); decide) _
end Hue
set_option Elab.async false
set_option linter.all false
set_option maxRecDepth 100000
set_option maxHeartbeats 4000000
set_option autoImplicit false
namespace Hue
open PySem L2
/-! ### the one and the wide, step by step -/
abbrev W_ (C : Code) (vs : List Int) : Code := wideC C vs
/-- where the wide cells stand that are left when the one stands at k -/
def Lies (C : Code) (h : Nat) (k p : Nat) (own : List Ins) : Prop := (wideOf h C.cells).drop p = wgo (posF h C.cells) h (goals C.cells) k own (C.cells.drop k)
theorem lies_0 (C : Code) (h : Nat) : Lies C h 0 0 [] := rfl
theorem lies_goal {C : Code} (hC : C.Ok) {h : Nat} {g : Int} {c : Cell} (hc : c ∈ C.cells) (hg : c.goal? = some g) : ∃ j q : Nat, g = (j : Int) ∧ j ≤ C.cells.length ∧ posF h C.cells g = (q : Int) ∧ Lies C h j q [] := by
  obtain ⟨g0, g1⟩ := goalsIn hC c hc g hg
  obtain ⟨j, rfl⟩ := Int.eq_ofNat_of_zero_le g0
  have e := wgo_split (posF h C.cells) h (goals C.cells) j C.cells 0 [] (by rw [Int.zero_add]; exact goal_mem hc hg) (by omega)
  rw [Int.zero_add] at e
  have l := wgo_len (posF h C.cells) h (goals C.cells) (C.cells.take j) 0 []
  have l2 : ((wgo (posF h C.cells) h (goals C.cells) 0 [] (C.cells.take j)).length : Int) = posF h C.cells (j : Int) := by
    rw [l]
    show (h : Int) * ((0 : Nat) : Int) + _ = ((C.cells.take j).map (cost h)).sum
    simp
  refine ⟨j, (wgo (posF h C.cells) h (goals C.cells) 0 [] (C.cells.take j)).length, rfl, by omega, l2.symm, ?_⟩
  unfold Lies wideOf
  rw [e, List.drop_left]
theorem drop_cons {α : Type} {xs : List α} {p : Nat} {x : α} {ys : List α} (h : xs.drop p = x :: ys) : xs[p]? = some x ∧ xs.drop (p + 1) = ys := by
  have e : (xs.drop p)[0]? = some x := by rw [h] <;> rfl
  rw [List.getElem?_drop] at e
  refine ⟨e, ?_⟩
  have e2 : (xs.drop p).drop 1 = ys := by rw [h] <;> rfl
  rw [List.drop_drop] at e2
  exact e2
theorem drop_app {α : Type} {xs : List α} {p : Nat} {as ys : List α} (h : xs.drop p = as ++ ys) : (∀ (j : Nat) c, as[j]? = some c → xs[p + j]? = some c) ∧ xs.drop (p + as.length) = ys := by
  constructor
  · intro j c e
    have e2 : (xs.drop p)[j]? = some c := by
      rw [h, List.getElem?_append_left (List.getElem?_eq_some_iff.mp e).1]
      exact e
    rw [List.getElem?_drop] at e2
    exact e2
  · have e2 : (xs.drop p).drop as.length = ys := by
      rw [h, List.drop_left]
    rw [List.drop_drop] at e2
    exact e2
/-- the one stands at k, the wide one at p, own is still to be done there -/
structure Sim (C : Code) (vs : List Int) (k p : Nat) (own : List Ins) (X0 : HueV) (S1 S2 : MS) : Prop where
  a1 : S1.at_ = (k : Int)
  a2 : S2.at_ = (p : Int)
  r1 : S1.state = ("running" : Str)
  r2 : S2.state = ("running" : Str)
  rw : S2.row = S1.row
  lf : S2.left = S1.left
  ev : S2.even = true
  kl : k ≤ C.cells.length
  oo : ∀ i ∈ own, i.Ok C.size C.bank.length
  xo : X0.Ok C.size C.bank.length
  ll : S1.left.length ≤ 1000
  li : Lies C vs.length k p own
theorem foldD_ok {m : Int} {nb : Nat} (hm : 2 ≤ m) : ∀ (own : List Ins) (X : HueV), X.Ok m nb → (∀ i ∈ own, i.Ok m nb) → (foldD m X own).Ok m nb
  | [], _, h, _ => h
  | i :: is, X, h, hi => foldD_ok hm is (doneP m X i) (doneP_ok hm h (hi i List.mem_cons_self)) fun j hj => hi j (List.mem_cons_of_mem _ hj)
theorem foldD_snoc (m : Int) (X : HueV) (own : List Ins) (i : Ins) : foldD m X (own ++ [i]) = doneP m (foldD m X own) i := by
  unfold foldD
  rw [List.foldl_append]
  rfl
theorem half_all (h : Nat) (X' X0 : HueV) : half h h X' X0 = List.replicate h X' := by
  unfold half
  rw [Nat.sub_self]
  exact List.append_nil _
/-- the wide one does what is still to be done -/
theorem sim_flush {C : Code} (hs : 2 ≤ C.size) {vs : List Int} {k p : Nat} {own : List Ins} {X0 : HueV} {S1 S2 : MS} (I : Sim C vs k p own X0 S1 S2) (hrow : S1.row.length ≤ 10000) {rest : List Cell} (he : wgo (posF vs.length C.cells) vs.length (goals C.cells) k own (C.cells.drop k) = flush vs.length own ++ rest) :
    ∃ S3 : MS, runR (wideC C vs) (vs.length * own.length) ⟨List.replicate vs.length X0, S2⟩ = ⟨List.replicate vs.length (foldD C.size X0 own), S3⟩ ∧ GoodRun (wideC C vs) (vs.length * own.length) ⟨List.replicate vs.length X0, S2⟩ ∧
      Fine (wideC C vs) ⟨List.replicate vs.length (foldD C.size X0 own), S3⟩ ∧ S3.at_ = ((p + vs.length * own.length : Nat) : Int) ∧ S3.state = ("running" : Str) ∧ S3.row = S1.row ∧ S3.left = S1.left ∧ S3.even = true ∧ (wideC C vs).cells.drop (p + vs.length * own.length) = rest := by
  have li := I.li
  unfold Lies at li
  rw [he] at li
  obtain ⟨d1, d2⟩ := drop_app li
  rw [flush_len] at d2
  have F : Fine (wideC C vs) ⟨List.replicate vs.length X0, S2⟩ := ⟨List.length_replicate, fun X hX => by
    rw [(List.mem_replicate.mp hX).2]
    exact I.xo, by show 0 ≤ S2.at_; rw [I.a2]; omega, I.ev, by show S2.left.length ≤ _; rw [I.lf]; exact I.ll, by show S2.row.length ≤ _; rw [I.rw]; exact hrow⟩
  obtain ⟨r1, r2, r3⟩ := run_half (C := wideC C vs) hs (h := vs.length) own p X0 I.oo d1 vs.length S2 (Nat.le_refl _) I.a2 I.r2 F
  rw [half_all] at r1 r3
  exact ⟨_, r1, r2, r3, by show (p : Int) + _ = _; omega, I.r2, I.rw, I.lf, I.ev, d2⟩
theorem wgo_end (sp : Int → Int) (h : Nat) (gs : List Int) (k : Int) (own : List Ins) : wgo sp h gs k own [] = flush h own ++ [] := (List.append_nil _).symm
theorem wgo_settle (sp : Int → Int) (h : Nat) (gs : List Int) (k : Int) (own : List Ins) {c : Cell} (cs : List Cell) (hn : ∀ j i, c ≠ .ins j i) : wgo sp h gs k own (c :: cs) = flush h own ++ (led sp h c :: wgo sp h gs (k + 1) [] cs) := by
  have e : wgo sp h gs k own (c :: cs) = (if k ∈ gs then flush h own else []) ++ (flush h (if k ∈ gs then [] else own) ++ led sp h c :: wgo sp h gs (k + 1) [] cs) := by
    cases c with
    | ins j i => exact absurd rfl (hn j i)
    | _ => rfl
  rw [e]
  by_cases hk : k ∈ gs
  · rw [if_pos hk, if_pos hk, flush_nil] <;> rfl
  · rw [if_neg hk, if_neg hk] <;> rfl
theorem wgo_ins (sp : Int → Int) (h : Nat) (gs : List Int) (k : Int) (own : List Ins) (j : Int) (i : Ins) (cs : List Cell) : wgo sp h gs k own (.ins j i :: cs) = (if k ∈ gs then flush h own else []) ++ wgo sp h gs (k + 1) ((if k ∈ gs then [] else own) ++ [i]) cs := rfl
theorem good_of {C : Code} {vs : List Int} {X : HueV} {S : MS} (F : Fine (wideC C vs) ⟨List.replicate vs.length X, S⟩) (h1 : 1 ≤ vs.length) (hw : ∀ c, (wideC C vs).cells[S.at_.toNat]? = some c → (∀ j i, c ≠ .ins j i) → c.wide_ vs.length) : GoodR (wideC C vs) ⟨List.replicate vs.length X, S⟩ :=
  ⟨F.n, F.ok, F.at0, F.ev, F.lf, F.rw, fun c hc hn => ⟨hw c hc hn, by
    show List.replicate vs.length X = List.replicate vs.length ((List.replicate vs.length X).headD hue0)
    obtain ⟨n, hn⟩ : ∃ n, vs.length = n + 1 := ⟨vs.length - 1, by omega⟩
    rw [hn] <;> rfl⟩⟩
theorem wide_led {C : Code} (hC : C.Ok) (h : Nat) {c : Cell} (hc : c ∈ C.cells) (hn : ∀ j i, c ≠ .ins j i) (sp : Int → Int) : (led sp h c).wide_ (h : Nat) ∧ ∀ j i, led sp h c ≠ .ins j i := by
  have := hC.cn c hc
  cases c with
  | ins j i => exact absurd rfl (hn j i)
  | take b w => exact ⟨⟨rfl, this.1⟩, fun j i z => by cases z⟩
  | shw p w => exact ⟨rfl, fun j i z => by cases z⟩
  | turn g w => exact ⟨rfl, fun j i z => by cases z⟩
  | _ => exact ⟨trivial, fun j i z => by cases z⟩
/-- one step of the one: some of the wide one -/
def Outcome (C : Code) (vs : List Int) (k : Nat) (own : List Ins) (X0 : HueV) (S1 S2 : MS) (n : Nat) (R1 : RS) : Prop :=
  (∃ (k' p' : Nat) (own' : List Ins) (X0' : HueV) (S1' S2' : MS), R1 = ⟨[foldD C.size X0' own'], S1'⟩ ∧ runR (wideC C vs) n ⟨List.replicate vs.length X0, S2⟩ = ⟨List.replicate vs.length X0', S2'⟩ ∧ Sim C vs k' p' own' X0' S1' S2' ∧ n + vs.length * own'.length ≤ vs.length * (own.length + 1) ∧ (0 < n ∨ k' = k + 1) ∧ S1'.row.length ≤ S1.row.length + n) ∨
  (R1.ms.state ≠ ("running" : Str) ∧ (runR (wideC C vs) n ⟨List.replicate vs.length X0, S2⟩).ms.state = R1.ms.state ∧ (runR (wideC C vs) n ⟨List.replicate vs.length X0, S2⟩).ms.row = R1.ms.row ∧ n ≤ vs.length * (own.length + 1))
end Hue
set_option Elab.async false
set_option linter.all false
set_option maxRecDepth 100000
set_option maxHeartbeats 4000000
set_option autoImplicit false
namespace Hue
open PySem L2
theorem out_go {C : Code} {vs : List Int} (h1 : 1 ≤ vs.length) {k k' p' : Nat} {own : List Ins} {X0 X' : HueV} {S1 S2 T1 T2 : MS} (eW : runR (wideC C vs) (vs.length * own.length + 1) ⟨List.replicate vs.length X0, S2⟩ = ⟨List.replicate vs.length X', T2⟩)
    (a1 : T1.at_ = (k' : Int)) (a2 : T2.at_ = (p' : Int)) (r1 : T1.state = ("running" : Str)) (r2 : T2.state = ("running" : Str)) (rw_ : T2.row = T1.row) (lf : T2.left = T1.left) (ev : T2.even = true) (kl : k' ≤ C.cells.length) (xo : X'.Ok C.size C.bank.length) (ll : T1.left.length ≤ 1000) (li : Lies C vs.length k' p' []) (hr : T1.row.length ≤ S1.row.length + 1) :
    Outcome C vs k own X0 S1 S2 (vs.length * own.length + 1) ⟨[X'], T1⟩ :=
  .inl ⟨k', p', [], X', T1, T2, rfl, eW, ⟨a1, a2, r1, r2, rw_, lf, ev, kl, (fun i hi => by cases hi), xo, ll, li⟩, by
    show vs.length * own.length + 1 + vs.length * 0 ≤ _
    rw [Nat.mul_zero, Nat.mul_succ]
    omega, .inl (Nat.succ_pos _), by omega⟩
theorem out_end {C : Code} {vs : List Int} (h1 : 1 ≤ vs.length) {k : Nat} {own : List Ins} {X0 : HueV} {S1 S2 : MS} {R1 R2 : RS} (eW : runR (wideC C vs) (vs.length * own.length + 1) ⟨List.replicate vs.length X0, S2⟩ = R2) (h2 : R1.ms.state ≠ ("running" : Str)) (h3 : R2.ms.state = R1.ms.state) (h4 : R2.ms.row = R1.ms.row) :
    Outcome C vs k own X0 S1 S2 (vs.length * own.length + 1) R1 := .inr ⟨h2, by rw [eW]; exact h3, by rw [eW]; exact h4, by
    rw [Nat.mul_succ]
    omega⟩
theorem sim_step {C : Code} (hC : C.Ok) (hC1 : C.votes.length = 1) {vs : List Int} (hv : VotesOk vs) {k p : Nat} {own : List Ins} {X0 : HueV} {S1 S2 : MS} (I : Sim C vs k p own X0 S1 S2) (hrow : S1.row.length ≤ 10000) :
    ∃ n, GoodRun (wideC C vs) n ⟨List.replicate vs.length X0, S2⟩ ∧ Outcome C vs k own X0 S1 S2 n (stepR C ⟨[foldD C.size X0 own], S1⟩) := by
  have hs := hC.s
  have h1 : 1 ≤ vs.length := hv.1
  have xo := foldD_ok hs.1 own X0 I.xo I.oo
  have ek : ((k + 1 : Nat) : Int) = (k : Int) + 1 := by omega
  -- what is still to be done, and one step behind it
  have one : ∀ {S3 : MS}, runR (wideC C vs) (vs.length * own.length) ⟨List.replicate vs.length X0, S2⟩ = ⟨List.replicate vs.length (foldD C.size X0 own), S3⟩ → GoodRun (wideC C vs) (vs.length * own.length) ⟨List.replicate vs.length X0, S2⟩ → S3.state = ("running" : Str) → GoodR (wideC C vs) ⟨List.replicate vs.length (foldD C.size X0 own), S3⟩ →
      GoodRun (wideC C vs) (vs.length * own.length + 1) ⟨List.replicate vs.length X0, S2⟩ ∧ runR (wideC C vs) (vs.length * own.length + 1) ⟨List.replicate vs.length X0, S2⟩ = stepR (wideC C vs) ⟨List.replicate vs.length (foldD C.size X0 own), S3⟩ := fun {S3} e g hr gr =>
    ⟨goodRun_add _ _ 1 _ g (by rw [e]; exact fun _ => ⟨gr, trivial⟩), by rw [runR_add, e]; exact runR_go _ hr 0⟩
  by_cases hlt : k < C.cells.length
  · have hc : C.cells[k]? = some C.cells[k] := List.getElem?_eq_getElem hlt
    have hd : C.cells.drop k = C.cells[k] :: C.cells.drop (k + 1) := List.drop_eq_getElem_cons hlt
    have hm := List.getElem_mem hlt
    generalize C.cells[k] = c at hc hd hm
    have hco := hC.cn c hm
    by_cases hn : ∀ j i, c ≠ .ins j i
    · -- a settle
      have he := wgo_settle (posF vs.length C.cells) vs.length (goals C.cells) k own (C.cells.drop (k + 1)) hn
      rw [← hd] at he
      obtain ⟨S3, e1, e2, e3, e4, e5, e6, e7, e8, e9⟩ := sim_flush hs.1 I hrow he
      obtain ⟨c1, c2⟩ := drop_cons e9
      obtain ⟨wl, wn⟩ := wide_led hC vs.length hm hn (posF vs.length C.cells)
      have gr := good_of e3 h1 (fun d hdd _ => by
        have ea : S3.at_.toNat = p + vs.length * own.length := by omega
        rw [ea, c1] at hdd
        rw [← Option.some.inj hdd]
        exact wl)
      obtain ⟨g, eW⟩ := one e1 e2 e5 gr
      refine ⟨_, g, ?_⟩
      rw [stepR_settle h1 e4 c1 wn] at eW
      have eR : stepR C ⟨[foldD C.size X0 own], S1⟩ = _ := stepR_settle (C := C) (h := 1) (X := foldD C.size X0 own) (Nat.le_refl _) I.a1 hc hn
      rw [eR]
      generalize hX : foldD C.size X0 own = X at eW xo
      have nx : Lies C vs.length (k + 1) (p + vs.length * own.length + 1) [] := by
        unfold Lies
        rw [ek]
        exact c2
      have xn : HueV.Ok C.size C.bank.length ⟨X.regs, X.cells, none⟩ := ⟨xo.r, xo.rr, xo.c, xo.cc⟩
      have rl1 : S1.row.length ≤ S1.row.length + 1 := Nat.le_succ _
      have ra : ∀ r : Row, (S1.row ++ [r]).length ≤ S1.row.length + 1 := fun r => by
        rw [List.length_append]
        exact Nat.le_refl _
      have i1 := I.r1
      have i2 := I.ll
      cases c with
      | ins j i => exact absurd rfl (hn j i)
      | shw q w =>
        cases hsl : X.slot with
        | none =>
          have u1 : ∀ S : MS, settleU C.size (.shw q w) X S = (X, { S with even := false }, false) := fun S => by
            unfold settleU
            rw [hsl]
          have u2 : ∀ S : MS, settleU (wideC C vs).size (led (posF vs.length C.cells) vs.length (.shw q w)) X S = (X, { S with even := false }, false) := fun S => by
            show settleU C.size (.shw q _) X S = _
            unfold settleU
            rw [hsl]
          rw [u2] at eW
          rw [u1]
          exact out_end h1 eW (by show ("caught" : Str) ≠ ("running" : Str); decide) rfl e6
        | some v =>
          have u1 : ∀ S : MS, settleU C.size (.shw q w) X S = (⟨X.regs, X.cells, none⟩, { S with row := S.row ++ [.show_ q v] }, true) := fun S => by
            unfold settleU
            rw [hsl]
          have u2 : ∀ S : MS, settleU (wideC C vs).size (led (posF vs.length C.cells) vs.length (.shw q w)) X S = (⟨X.regs, X.cells, none⟩, { S with row := S.row ++ [.show_ q v] }, true) := fun S => by
            show settleU C.size (.shw q _) X S = _
            unfold settleU
            rw [hsl]
          rw [u2] at eW
          rw [u1]
          exact out_go h1 eW ek.symm (by show ((p + vs.length * own.length : Nat) : Int) + 1 = _; omega) i1 e5 (by show S3.row ++ _ = S1.row ++ _; rw [e6]) e7 e8 hlt xn i2 nx (ra _)
      | turn g w =>
        cases hsl : X.slot with
        | none =>
          have u1 : ∀ S : MS, settleU C.size (.turn g w) X S = (X, { S with even := false }, false) := fun S => by
            unfold settleU
            rw [hsl]
          have u2 : ∀ S : MS, settleU (wideC C vs).size (led (posF vs.length C.cells) vs.length (.turn g w)) X S = (X, { S with even := false }, false) := fun S => by
            show settleU C.size (.turn _ _) X S = _
            unfold settleU
            rw [hsl]
          rw [u2] at eW
          rw [u1]
          exact out_end h1 eW (by show ("caught" : Str) ≠ ("running" : Str); decide) rfl e6
        | some v =>
          have u1 : ∀ S : MS, settleU C.size (.turn g w) X S = (⟨X.regs, X.cells, none⟩, { S with at_ := if v ≠ 0 then g else S.at_ }, true) := fun S => by
            unfold settleU
            rw [hsl]
          have u2 : ∀ S : MS, settleU (wideC C vs).size (led (posF vs.length C.cells) vs.length (.turn g w)) X S = (⟨X.regs, X.cells, none⟩, { S with at_ := if v ≠ 0 then posF vs.length C.cells g else S.at_ }, true) := fun S => by
            show settleU C.size (.turn _ _) X S = _
            unfold settleU
            rw [hsl]
          rw [u2] at eW
          rw [u1]
          by_cases hv0 : v ≠ 0
          · obtain ⟨j, q, ej, jl, eq, lj⟩ := lies_goal hC (h := vs.length) hm (g := g) rfl
            exact out_go h1 eW (by show (if v ≠ 0 then g else _) = _; rw [if_pos hv0]; exact ej) (by show (if v ≠ 0 then posF vs.length C.cells g else _) = _; rw [if_pos hv0]; exact eq) i1 e5 e6 e7 e8 jl xn i2 lj rl1
          · exact out_go h1 eW (by show (if v ≠ 0 then g else (k : Int) + 1) = _; rw [if_neg hv0]; exact ek.symm) (by show (if v ≠ 0 then posF vs.length C.cells g else ((p + vs.length * own.length : Nat) : Int) + 1) = ((p + vs.length * own.length + 1 : Nat) : Int); rw [if_neg hv0]; omega) i1 e5 e6 e7 e8 hlt xn i2 nx rl1
      | take b w =>
        have u1 : ∀ S : MS, settleU C.size (.take b w) X S = (⟨X.regs.set b.toNat (S.left.headD 0 % C.size), X.cells, X.slot⟩, { S with left := S.left.tail, row := S.row ++ [.take_ (S.left.headD 0 % C.size)] }, true) := fun S => rfl
        have u2 : ∀ S : MS, settleU (wideC C vs).size (led (posF vs.length C.cells) vs.length (.take b w)) X S = (⟨X.regs.set b.toNat (S.left.headD 0 % C.size), X.cells, X.slot⟩, { S with left := S.left.tail, row := S.row ++ [.take_ (S.left.headD 0 % C.size)] }, true) := fun S => rfl
        rw [u2] at eW
        rw [u1]
        have xt := settleU_hue (c := .take b w) (S := { S1 with steps := S1.steps + 1, at_ := (k : Int) + 1 }) hs.1 xo
        have e7' : (({ S3 with steps := S3.steps + 1, at_ := ((p + vs.length * own.length : Nat) : Int) + 1 } : MS)).left = S1.left := e7
        rw [e7'] at eW
        refine out_go h1 eW ek.symm (by show ((p + vs.length * own.length : Nat) : Int) + 1 = _; omega) i1 e5 (by show S3.row ++ _ = S1.row ++ _; rw [e6]) (by show S1.left.tail = _; rfl) e8 hlt xt ?_ nx (ra _)
        show S1.left.tail.length ≤ _
        rw [List.length_tail]
        omega
      | goto g =>
        have u1 : ∀ S : MS, settleU C.size (.goto g) X S = (X, { S with at_ := g }, true) := fun S => rfl
        have u2 : ∀ S : MS, settleU (wideC C vs).size (led (posF vs.length C.cells) vs.length (.goto g)) X S = (X, { S with at_ := posF vs.length C.cells g }, true) := fun S => rfl
        rw [u2] at eW
        rw [u1]
        obtain ⟨j, q, ej, jl, eq, lj⟩ := lies_goal hC (h := vs.length) hm (g := g) rfl
        exact out_go h1 eW ej eq i1 e5 e6 e7 e8 jl xo i2 lj rl1
      | stop =>
        have u1 : ∀ S : MS, settleU C.size .stop X S = (X, { S with row := S.row ++ [.stop_], state := "stop" }, true) := fun S => rfl
        have u2 : ∀ S : MS, settleU (wideC C vs).size (led (posF vs.length C.cells) vs.length .stop) X S = (X, { S with row := S.row ++ [.stop_], state := "stop" }, true) := fun S => rfl
        rw [u2] at eW
        rw [u1]
        exact out_end h1 eW (by show ("stop" : Str) ≠ ("running" : Str); decide) rfl (by show S3.row ++ _ = S1.row ++ _; rw [e6])
      | mark =>
        have u1 : ∀ S : MS, settleU C.size .mark X S = (⟨X.regs, X.cells, none⟩, S, true) := fun S => rfl
        have u2 : ∀ S : MS, settleU (wideC C vs).size (led (posF vs.length C.cells) vs.length .mark) X S = (⟨X.regs, X.cells, none⟩, S, true) := fun S => rfl
        rw [u2] at eW
        rw [u1]
        exact out_go h1 eW ek.symm (by show ((p + vs.length * own.length : Nat) : Int) + 1 = _; omega) i1 e5 e6 e7 e8 hlt xn i2 nx rl1
    · -- an instruction
      obtain ⟨j, i, rfl⟩ : ∃ j i, c = .ins j i := by
        cases c with
        | ins j i => exact ⟨j, i, rfl⟩
        | _ => exact absurd (fun j i z => by cases z) hn
      rw [hC1] at hco
      have ej : j = 0 := by
        have := hco.1
        have := hco.2.1
        omega
      subst ej
      have eR := stepR_ins (C := C) (hues := [foldD C.size X0 own]) I.a1 hc
      rw [eR]
      by_cases hk : (k : Int) ∈ goals C.cells
      · have he : wgo (posF vs.length C.cells) vs.length (goals C.cells) k own (C.cells.drop k) = flush vs.length own ++ wgo (posF vs.length C.cells) vs.length (goals C.cells) (k + 1) [i] (C.cells.drop (k + 1)) := by
          rw [hd, wgo_ins, if_pos hk, if_pos hk] <;> rfl
        obtain ⟨S3, e1, e2, e3, e4, e5, e6, e7, e8, e9⟩ := sim_flush hs.1 I hrow he
        refine ⟨_, e2, .inl ⟨k + 1, p + vs.length * own.length, [i], foldD C.size X0 own, { S1 with steps := S1.steps + 1, at_ := (k : Int) + 1 }, S3, rfl, e1, ⟨ek.symm, e4, I.r1, e5, e6, e7, e8, hlt, (fun x hx => by
          rw [List.mem_singleton.mp hx]
          exact hco.2.2), xo, I.ll, by
            unfold Lies
            rw [ek]
            exact e9⟩, by rw [List.length_singleton, Nat.mul_one, Nat.mul_succ]; exact Nat.le_refl _, .inr rfl, Nat.le_add_right _ _⟩⟩
      · have he : wgo (posF vs.length C.cells) vs.length (goals C.cells) k own (C.cells.drop k) = wgo (posF vs.length C.cells) vs.length (goals C.cells) (k + 1) (own ++ [i]) (C.cells.drop (k + 1)) := by
          rw [hd, wgo_ins, if_neg hk, if_neg hk] <;> rfl
        refine ⟨0, trivial, .inl ⟨k + 1, p, own ++ [i], X0, { S1 with steps := S1.steps + 1, at_ := (k : Int) + 1 }, S2, by rw [foldD_snoc] <;> rfl, rfl, ⟨ek.symm, I.a2, I.r1, I.r2, I.rw, I.lf, I.ev, hlt, (fun x hx => by
          rcases List.mem_append.mp hx with z | z
          · exact I.oo x z
          · rw [List.mem_singleton.mp z]
            exact hco.2.2), I.xo, I.ll, by
            have li := I.li
            unfold Lies at li ⊢
            rw [ek, li, he]⟩, by rw [Nat.zero_add, List.length_append]; exact Nat.le_refl _, .inr rfl, Nat.le_refl _⟩⟩
  · -- behind the last cell
    have hkl : k = C.cells.length := by
      have := I.kl
      omega
    have hd : C.cells.drop k = [] := List.drop_eq_nil_of_le (by omega)
    have he := wgo_end (posF vs.length C.cells) vs.length (goals C.cells) k own
    rw [← hd] at he
    obtain ⟨S3, e1, e2, e3, e4, e5, e6, e7, e8, e9⟩ := sim_flush hs.1 I hrow he
    have hlen : (wideC C vs).cells.length ≤ p + vs.length * own.length := List.drop_eq_nil_iff.mp (by rw [e9, hd])
    have gr := good_of e3 h1 (fun d hdd _ => by
      have ea : S3.at_.toNat = p + vs.length * own.length := by omega
      rw [ea, List.getElem?_eq_none hlen] at hdd
      cases hdd)
    obtain ⟨g, eW⟩ := one e1 e2 e5 gr
    rw [stepR_end (by rw [e4]; omega)] at eW
    refine ⟨_, g, ?_⟩
    rw [stepR_end (by rw [I.a1]; omega)]
    exact out_end h1 eW (by show ("caught" : Str) ≠ ("running" : Str); decide) rfl e6
end Hue
set_option Elab.async false
set_option linter.all false
set_option maxRecDepth 100000
set_option maxHeartbeats 4000000
set_option autoImplicit false
namespace Hue
open PySem L2
/-- the wide one's run is good -/
theorem good_wide {C : Code} (hC : C.Ok) (hC1 : C.votes.length = 1) {vs : List Int} (hv : VotesOk vs) : ∀ (F N k p : Nat) (own : List Ins) (X0 : HueV) (S1 S2 : MS), N * (C.cells.length + 1) + (C.cells.length - k) < F → Sim C vs k p own X0 S1 S2 → S1.row.length + N ≤ 10000 → GoodRun (wideC C vs) N ⟨List.replicate vs.length X0, S2⟩
  | 0, N, k, p, own, X0, S1, S2, hF, _, _ => absurd hF (Nat.not_lt_zero _)
  | F + 1, N, k, p, own, X0, S1, S2, hF, I, hr => by
    obtain ⟨n, g, o⟩ := sim_step hC hC1 hv I (by omega)
    by_cases hn : N ≤ n
    · exact goodRun_less _ _ _ _ hn g
    have e : N = n + (N - n) := by omega
    rw [e]
    refine goodRun_add _ _ _ _ g ?_
    rcases o with ⟨k', p', own', X0', S1', S2', _, e2, I', _, h4, h5⟩ | ⟨h1, h2, _, _⟩
    · rw [e2]
      refine good_wide hC hC1 hv F (N - n) k' p' own' X0' S1' S2' ?_ I' (by omega)
      have kl := I'.kl
      by_cases hn0 : n = 0
      · have : k' = k + 1 := by omega
        subst hn0
        rw [Nat.sub_zero]
        omega
      · have : (N - n + 1) * (C.cells.length + 1) ≤ N * (C.cells.length + 1) := Nat.mul_le_mul_right _ (by omega)
        rw [Nat.succ_mul] at this
        omega
    · exact goodRun_stop _ (by rw [h2]; exact h1) _
/-- the one, and the wide one, with steps enough -/
theorem alike {C : Code} (hC : C.Ok) (hC1 : C.votes.length = 1) {vs : List Int} (hv : VotesOk vs) : ∀ (n N k p : Nat) (own : List Ins) (X0 : HueV) (S1 S2 : MS), Sim C vs k p own X0 S1 S2 → vs.length * (n + own.length) ≤ N → S1.row.length + N ≤ 10000 →
    RightOk (runR C n ⟨[foldD C.size X0 own], S1⟩).ms (runR (wideC C vs) N ⟨List.replicate vs.length X0, S2⟩).ms
  | 0, N, k, p, own, X0, S1, S2, I, _, _ => by
    show RightOk S1 _
    obtain ⟨t, e⟩ := runR_row (wideC C vs) N ⟨List.replicate vs.length X0, S2⟩
    have e : (runR (wideC C vs) N ⟨List.replicate vs.length X0, S2⟩).ms.row = S1.row ++ t := by
      rw [e]
      show S2.row ++ t = _
      rw [I.rw]
    refine ⟨?_, runR_even _ _ _ (.inl I.ev), fun z => absurd I.r1 z, .inr (.inl I.r1)⟩
    rw [e, List.length_append, Nat.min_eq_left (Nat.le_add_right _ _), List.take_length, List.take_left]
  | n + 1, N, k, p, own, X0, S1, S2, I, hN, hr => by
    obtain ⟨m, g, o⟩ := sim_step hC hC1 hv I (by omega)
    have eC : runR C (n + 1) ⟨[foldD C.size X0 own], S1⟩ = runR C n (stepR C ⟨[foldD C.size X0 own], S1⟩) := runR_go C I.r1 n
    rw [eC]
    have hm : vs.length * (n + 1 + own.length) = vs.length * n + vs.length * (own.length + 1) := by
      rw [← Nat.mul_add]
      congr 1
      omega
    rcases o with ⟨k', p', own', X0', S1', S2', e1, e2, I', h3, h4, h5⟩ | ⟨h1, h2, h3, h4⟩
    · have hmN : m ≤ N := by omega
      have e : N = m + (N - m) := by omega
      rw [e, runR_add, e1, e2]
      refine alike hC hC1 hv n (N - m) k' p' own' X0' S1' S2' I' ?_ (by omega)
      rw [Nat.mul_add]
      omega
    · have hmN : m ≤ N := by omega
      have e : N = m + (N - m) := by omega
      have nr : (runR (wideC C vs) m ⟨List.replicate vs.length X0, S2⟩).ms.state ≠ ("running" : Str) := by
        rw [h2]
        exact h1
      rw [e, runR_add, runR_stop C h1, runR_stop (wideC C vs) nr]
      refine ⟨by rw [h3], runR_even _ _ _ (.inl I.ev), fun _ => ⟨h2, h3⟩, .inr (.inr h2)⟩
theorem sim_init {C : Code} (hC : C.Ok) (vs : List Int) {ins : List Int} (hi : ins.length ≤ 1000) : Sim C vs 0 0 [] ⟨List.replicate 8 0, C.bank, none⟩ (init C ins).ms (init (wideC C vs) ins).ms := by
  have hs := hC.s
  refine ⟨rfl, rfl, rfl, rfl, rfl, rfl, rfl, Nat.zero_le _, (fun i hi => by cases hi), ⟨List.length_replicate, fun n hn => ?_, rfl, hC.bn⟩, hi, lies_0 C vs.length⟩
  rw [(List.mem_replicate.mp hn).2]
  omega
theorem init_one {C : Code} (hC1 : C.votes.length = 1) (ins : List Int) : init C ins = ⟨[⟨List.replicate 8 0, C.bank, none⟩], (init C ins).ms⟩ := by
  unfold init
  rw [hC1] <;> rfl
/-- all that the law asks of the runs -/
theorem runs_ok {C : Code} (hC : C.Ok) (hC1 : C.votes.length = 1) {vs : List Int} (hv : VotesOk vs) {ins : List Int} (hi : ins.length ≤ 1000) :
    GoodRun C 300 (init C ins) ∧ GoodRun (wideC C vs) 1500 (init (wideC C vs) ins) ∧ RightOk (runR C 300 (init C ins)).ms (runR (wideC C vs) 1500 (init (wideC C vs) ins)).ms := by
  have I := sim_init hC vs hi
  have v5 := hv.2.1
  refine ⟨?_, ?_, ?_⟩
  · rw [init_one hC1]
    exact good_one hC hC1 300 _ _ I.xo (Int.le_refl _) (fun _ => rfl) hi (by show 0 + 300 ≤ 10000; decide)
  · exact good_wide hC hC1 hv _ 1500 0 0 [] _ _ _ (Nat.lt_succ_self _) I (by show 0 + 1500 ≤ 10000; decide)
  · have := alike hC hC1 hv 300 1500 0 0 [] _ _ _ I (by show vs.length * (300 + 0) ≤ 1500; omega) (by show 0 + 1500 ≤ 10000; decide)
    rw [init_one hC1]
    exact this
end Hue
set_option Elab.async false
set_option linter.all false
set_option maxRecDepth 100000
set_option maxHeartbeats 4000000
set_option autoImplicit false
namespace Hue
open PySem L2
/-! ### the great codes -/
theorem tot_app (h : Int) (a b : List Cell) : tot h (a ++ b) = tot h a + tot h b := by
  unfold tot
  rw [List.map_append, List.sum_append]
theorem tot_rep (h : Int) (c : Cell) (n : Nat) : tot h (List.replicate n c) = n * cost h c := by
  unfold tot
  rw [List.map_replicate, sum_rep]
theorem great_n {h : Int} (h1 : 1 ≤ h) (h5 : h ≤ 5) : 0 ≤ 4000 / h - 1 ∧ 0 ≤ 4000 - h * (4000 / h - 1) ∧ 1 ≤ 4000 - h * (4000 / h - 1) ∧ (4000 / h - 1) + (4000 - h * (4000 / h - 1)) ≤ 4000 ∧ (2 ≤ h → (4000 / h - 1) + (4000 - h * (4000 / h - 1)) ≤ 3999) := by
  rcases (show h = 1 ∨ h = 2 ∨ h = 3 ∨ h = 4 ∨ h = 5 by omega) with e | e | e | e | e <;> rw [e] <;> decide
theorem great_tot {h : Int} (h1 : 1 ≤ h) (h5 : h ≤ 5) (d : Int) : tot h (greatCells h d) = 4000 := by
  obtain ⟨a, b, _, _⟩ := great_n h1 h5
  unfold greatCells
  rw [tot_app, tot_rep, tot_rep]
  show ((4000 / h - 1).toNat : Int) * h + ((4000 - h * (4000 / h - 1)).toNat : Int) * 1 = 4000
  rw [Int.toNat_of_nonneg a, Int.toNat_of_nonneg b, Int.mul_comm (4000 / h - 1) h]
  omega
theorem great_len {h : Int} (h1 : 1 ≤ h) (h5 : h ≤ 5) (d : Int) : ((greatCells h d).length : Int) = (4000 / h - 1) + (4000 - h * (4000 / h - 1)) := by
  obtain ⟨a, b, _, _⟩ := great_n h1 h5
  unfold greatCells
  rw [List.length_append, List.length_replicate, List.length_replicate]
  omega
theorem great_cell {h d m nb n : Int} (hd : Reg d) (hm : 2 ≤ m) {c : Cell} (hc : c ∈ greatCells h d) : c.Ok 1 m nb n := by
  unfold greatCells at hc
  rcases List.mem_append.mp hc with z | z
  · rw [(List.mem_replicate.mp z).2]
    exact ⟨by decide, by decide, hd, by decide, by omega⟩
  · rw [(List.mem_replicate.mp z).2]
    trivial
theorem great_ok {h d : Int} (h1 : 1 ≤ h) (h5 : h ≤ 5) (hd : Reg d) : (Code.mk [1] 7 (greatCells h d) []).Ok := by
  obtain ⟨a, b, c, e, _⟩ := great_n h1 h5
  have l := great_len h1 h5 d
  exact ⟨votes1, ⟨by show (2 : Int) ≤ 7; decide, by show (7 : Int) ≤ 10000; decide⟩, Nat.zero_le _, (fun n hn => by cases hn), ⟨by show 1 ≤ (greatCells h d).length; omega, by show (greatCells h d).length ≤ 4000; omega⟩, fun x hx => great_cell hd (by show (2 : Int) ≤ 7; decide) hx⟩
theorem great2_ok {h d : Int} (h1 : 2 ≤ h) (h5 : h ≤ 5) (hd : Reg d) : (Code.mk [1] 7 (greatCells h d ++ [.stop]) []).Ok := by
  obtain ⟨a, b, c, _, e⟩ := great_n (by omega) h5
  have e := e h1
  have l := great_len (by omega) h5 d
  have l2 : (greatCells h d ++ [Cell.stop]).length = (greatCells h d).length + 1 := by rw [List.length_append] <;> rfl
  refine ⟨votes1, ⟨by show (2 : Int) ≤ 7; decide, by show (7 : Int) ≤ 10000; decide⟩, Nat.zero_le _, (fun n hn => by cases hn), ⟨by show 1 ≤ (greatCells h d ++ [Cell.stop]).length; omega, by show (greatCells h d ++ [Cell.stop]).length ≤ 4000; omega⟩, fun x hx => ?_⟩
  rcases List.mem_append.mp hx with z | z
  · exact great_cell hd (by show (2 : Int) ≤ 7; decide) z
  · rw [List.mem_singleton.mp z]
    trivial
theorem great2_tot {h : Int} (h1 : 1 ≤ h) (h5 : h ≤ 5) (d : Int) : tot h (greatCells h d ++ [.stop]) = 4001 := by
  rw [tot_app, great_tot h1 h5]
  rfl
end Hue
set_option Elab.async false
set_option linter.all false
set_option maxRecDepth 100000
set_option maxHeartbeats 4000000
set_option autoImplicit false
namespace Hue
open PySem PySem.Spec PyProof.Rows L2
/-! ### the promises, met by a code of one hue -/
structure One (C : Code) : Prop where
  ok : C.Ok
  v : C.votes = [1]
  l : C.cells.length ≤ 48
theorem One.v1 {C : Code} (h : One C) : C.votes.length = 1 := by
  rw [h.v] <;> rfl
theorem One.cell {C : Code} (h : One C) : ∀ c ∈ C.cells, OneCell c := fun c hc => by
  have := h.ok.cn c hc
  rw [h.v1] at this
  exact oneCell (n := C.cells.length) (m := C.size) (nb := C.bank.length) this
theorem One.j0 {C : Code} (h : One C) : ∀ c ∈ C.cells, ∀ j i, c = .ins j i → j = 0 := fun c hc j i e => by
  have := h.cell c hc
  rw [e] at this
  exact this
theorem code_okV {C : Code} (h : C.Ok) : ∀ c ∈ C.cells, c.its.all okV = true := fun c hc => Cell.okV (h.cn c hc)
theorem One.tot {C : Code} (h : One C) {vs : List Int} (hv : VotesOk vs) : Hue.tot vs.length C.cells ≤ 4000 := by
  have v1 := hv.1
  have v5 := hv.2.1
  have a := tot_le (h := vs.length) (by omega) C.cells
  have l := h.l
  have b : (vs.length : Int) * (C.cells.length : Int) ≤ 5 * 48 := by
    have c : vs.length * C.cells.length ≤ 5 * 48 := Nat.mul_le_mul v5 l
    exact_mod_cast c
  omega
section
variable {H : Hp} {K : PySem.W.Frag} {Q : VK} {E : XK} {a va b il : Addr} {C : Code} {vs : List Int}
theorem w_widenedOk (hC : IsCode H a C) (hok : C.Ok) (h1 : C.votes.length = 1) (hva : H va = some (.tup (vs.map V.int))) (hv : VotesOk vs) (hm : tot vs.length C.cells ≤ 4000) (q : ∀ r H', Same H H' → IsCode H' r (wideC C vs) → Q (.ref r) H') : rWidened K (.ref a) (.ref va) H Q E := by
  refine .inr ⟨a, C, rfl, hC, hok, h1, .inr ⟨va, vs, rfl, hva, hv, .inr ⟨by rw [sumMany_is]; exact hm, layOk (code_okV hok) (goalsIn hok) hok.c.2 hm, fun r H' s hr => q r H' s ?_⟩⟩⟩
  rw [layP_wide (goalsIn hok)] at hr
  exact hr
theorem w_widenedGreat (hC : IsCode H a C) (hok : C.Ok) (h1 : C.votes.length = 1) (hva : H va = some (.tup (vs.map V.int))) (hv : VotesOk vs) (hm : 4000 < tot vs.length C.cells) (q : ∀ H', Same H H' → E (.ref (He.ga K "TooLarge")) none H') : rWidened K (.ref a) (.ref va) H Q E := by
  refine .inr ⟨a, C, rfl, hC, hok, h1, .inr ⟨va, vs, rfl, hva, hv, .inl ⟨by rw [sumMany_is]; exact hm, ?_, q⟩⟩⟩
  have I := (sizeI (code_okV hok)).d
  have := hok.c.2
  unfold blocksOf
  rw [List.length_append]
  show _ + 1 ≤ _
  omega
theorem w_wwideOk (hC : IsCode H a C) (h : One C) (hva : H va = some (.tup (vs.map V.int))) (hv : VotesOk vs) (q : ∀ r H', Same H H' → IsCode H' r (wideC C vs) → Q (.ref r) H') : rWWide (.ref a) (.ref va) H Q E := by
  refine ⟨a, va, C, vs, rfl, rfl, hC, h.ok, h.j0, hva, hv, wlayOk (goalsIn h.ok) h.ok.c.2 (h.tot hv), fun r H' s hr => q r H' s ?_⟩
  rw [layW_wide (goalsIn h.ok)] at hr
  exact hr
theorem w_narrowOk (hC : IsCode H b (wideC C vs)) (h : One C) (hv : VotesOk vs) {x : Int} (x0 : 0 ≤ x) (x1 : x < vs.length) (q : ∀ r H', Same H H' → IsCode H' r C → Q (.ref r) H') : rNarrowed (.ref b) (.int x) H Q E := by
  obtain ⟨n, rfl⟩ := Int.eq_ofNat_of_zero_le x0
  have hn : n < vs.length := by omega
  refine ⟨b, wideC C vs, (n : Int), rfl, rfl, hC, wide_ok h.ok hv (h.tot hv), x0, x1, notFar_wide hn (goalsIn h.ok) h.ok.c.1, fun r H' s hr => q r H' s ?_⟩
  have e : narrow (n : Int) (wideC C vs).cells = C.cells := narrow_wide hn (goalsIn h.ok) h.cell
  rw [e] at hr
  have e2 : (⟨[1], (wideC C vs).size, C.cells, (wideC C vs).bank⟩ : Code) = C := by
    obtain ⟨votes, size, cells, bank⟩ := C
    have hv' : votes = [1] := h.v
    subst hv'
    rfl
  rw [e2] at hr
  exact hr
theorem w_rightOk (hC : IsCode H a C) (hW : IsCode H b (wideC C vs)) (h : One C) (hv : VotesOk vs) {ins : List Int} (hil : H il = some (.lst (ins.map V.int))) (hi : ins.length ≤ 1000) (q : ∀ H', Same H H' → Q (.bl true) H') : rRunsRight (.ref a) (.ref b) (.ref il) H Q E := by
  obtain ⟨g1, g2, r⟩ := runs_ok h.ok h.v1 hv hi
  exact ⟨a, b, il, C, wideC C vs, ins, rfl, rfl, rfl, hC, h.ok, hW, wide_ok h.ok hv (h.tot hv), hil, hi, g1, g2, r, q⟩
/-- a code as data -/
def codeD (C : Code) : PyData := .tuple [tD (C.votes.map V.int), .int C.size, .tuple ((C.cells.map Cell.its).map tD), tD (C.bank.map V.int)]
theorem ints_ok : ∀ ns : List Int, (ns.map V.int).all okV = true
  | [] => rfl
  | _ :: ns => ints_ok ns
theorem code_dp (hC : IsCode H a C) (ho : ∀ c ∈ C.cells, c.its.all okV = true) : Dp K H (.ref a) (codeD C) := by
  obtain ⟨wa, ca, ba, as, hC⟩ := hC
  have dt : ∀ {p : Addr} {ns : List Int}, H p = some (.tup (ns.map V.int)) → Dp K H (.ref p) (tD (ns.map V.int)) := fun {p ns} hp => .tup (SqT.of hp) (dpAll_flat (flat_ints ns))
  exact .tup (SqT.of hC.top) (.cons (dt hC.vt) (.cons (.int _) (.cons (.tup (SqT.of hC.ct) (hC.cs.dp fun xs hx => by
    obtain ⟨c, hc, rfl⟩ := List.mem_map.mp hx
    exact ho c hc)) (.cons (dt hC.bt) .nil))))
theorem code_nd (ho : ∀ c ∈ C.cells, c.its.all okV = true) : ND 4 (codeD C) := by
  have di : ∀ (n : Nat) (ns : List Int), ND (n + 1) (tD (ns.map V.int)) := fun n ns => (NDs.flat (ints_ok ns)).tuple
  refine (NDs.cons (di 2 _) (.cons .int (.cons ?_ (.cons (di 2 _) .nil)))).tuple
  exact (NDs.tD (n := 1) fun xs hx => by
    obtain ⟨c, hc, rfl⟩ := List.mem_map.mp hx
    exact ho c hc).tuple
theorem w_neCode (h1 : IsCode H a C) (h2 : IsCode H b C) (hok : C.Ok) (h : Q (.bl false) H) : rNeD K (.ref a) (.ref b) H Q := w_neR (code_dp h1 (code_okV hok)) (code_dp h2 (code_okV hok)) (code_nd (code_okV hok)) (by decide) h
end
end Hue
set_option Elab.async false
set_option linter.all false
set_option maxRecDepth 100000
set_option maxHeartbeats 4000000
set_option autoImplicit false
namespace Hue
open PySem PySem.Spec PyProof.Rows L2
/-! ### an error that is kept behind its except suite -/
def EO (cls : Value) (d : Option Addr) (a : Addr) : HO := .ext fun h => ∃ (oe : Obj) (vs : Array Value), h.get? a = some oe ∧ Zc cls d oe ∧ oe.data = .fields vs
theorem eo_ok {P : Program} {w : World} {H : Hp} {h : Heap} {a : Addr} {cls : Value} {d : Option Addr} {oe : Obj} {vs : Array Value} (e : h.get? a = some oe) (z : Zc cls d oe) (dd : oe.data = .fields vs) : ObjOk P w H h a (EO cls d a) :=
  ⟨⟨oe, vs, e, z, dd⟩, ⟨oe, e⟩, fun _ _ ⟨o, v, q, r⟩ k => ⟨o, v, k o q, r⟩⟩
section
variable {X : Cx} {pins : List (Addr × Obj)} {σ : L2.St} {H : Hp} {s : Shared} {a : Addr} {o : HO}
/-- an object that stands there untracked, not there at the entry, is tracked -/
theorem inv_track (I : Inv X pins σ H s) (hn : H a = none) (h0 : X.s_0.heap.get? a = none) (nL : a ≠ X.env.locals) (nC : ∀ x c, X.env.cells.lookup x = some c → c ≠ a) (np : ∀ p ∈ X.pn ++ pins, p.1 ≠ a) (new : ObjOk X.prog X.w (upd H a o) s.heap a o) : Inv X pins σ (upd H a o) s := by
  have ne0 : ∀ b u, X.s_0.heap.get? b = some u → b ≠ a := fun b u e z => by
    rw [z, h0] at e
    cases e
  have neS : ∀ b u, H b = some u → b ≠ a := fun b u e => ne_of_none e hn
  refine ⟨I.ok, I.os, I.bare, ⟨I.base.keep, I.base.slot, fun b u e n hx => ?_, I.base.there, fun b xs e => ?_, fun b u x e => ?_, fun b ps e => ?_⟩, I.loc, I.cell, ?_, fun x c e => ?_, fun p hp => ?_, fun b u e => ?_, I.len⟩
  · rw [upd_ne (ne0 b u e)]
    exact I.base.free b u e n hx
  · have q := I.base.tups b xs e
    rw [upd_ne (neS b _ q)]
    exact q
  · have q := I.base.frzs b u x e
    rw [upd_ne (neS b _ q)]
    exact q
  · obtain ⟨m, q⟩ := I.base.tbls b ps e
    exact ⟨m, by rw [upd_ne (neS b _ q)]; exact q⟩
  · rw [upd_ne (Ne.symm nL)]
    exact I.free
  · rw [upd_ne (nC x c e)]
    exact I.freeC x c e
  · obtain ⟨e1, n1, r⟩ := I.pin p hp
    exact ⟨e1, by rw [upd_ne (np p hp)]; exact n1, r⟩
  · by_cases hb : b = a
    · subst hb
      rw [upd_same] at e
      cases e
      exact new
    · rw [upd_ne hb] at e
      exact (I.hok b u e).stay (fun c v _ q => q) (fun c q => by rw [upd_ne (neS c _ q)]; exact q) fun c xs q => by rw [upd_ne (neS c _ q)]; exact q
end
/-! the try rule, its catch told by what has landed -/
/-- an exception of the class cls that came down in X's frame, with the state sI from before it was made and the ground B under it -/
structure Down (X : Cx) (B : Heap) (a : Addr) (cls : Value) (d : Option Addr) (pins : List (Addr × Obj)) (σ : L2.St) (H : Hp) (sI s : Shared) : Prop where
  was : Inv X pins σ H sI
  gr : ∀ b o, sI.heap.get? b = some o → b ∉ frs X.stack → B.get? b = some o
  up : sI.heap.UpToSlots s.heap
  os : s.os = sI.os
  ag : AllBare s.gens
  fly : HandSPX.FlyingZ B (X.env :: X.outer) a (Zc cls d) s.heap
  un : H a = none
section
variable {X : Cx} {B : Heap} {a : Addr} {cls : Value} {d : Option Addr} {pins : List (Addr × Obj)} {σ : L2.St} {H : Hp} {sI s : Shared}
theorem Down.inv (K : Down X B a cls d pins σ H sI s) : Inv X pins σ H s := K.was.landed K.gr K.fly.1 K.up K.os K.ag
theorem Down.on (K : Down X B a cls d pins σ H sI s) {g : Heap} (f : HandSPX.FlyingZ B (X.env :: X.outer) a (Zc cls d) g) (u : s.heap.UpToSlots g) : Down X B a cls d pins σ H sI { s with heap := g } :=
  ⟨K.was, K.gr, K.up.trans u, K.os, K.ag, f, K.un⟩
/-- no frame stands at a -/
theorem Down.far (K : Down X B a cls d pins σ H sI s) : a ∉ frs (X.env :: X.outer) := fun z => by
  obtain ⟨oe, vs, e1, _, e2⟩ := K.fly.there
  obtain ⟨_, o, e3, nf⟩ := K.fly.2.2.1.mem z
  exact nf vs (by rw [← Option.some.inj (e1.symm.trans e3)]; exact e2)
theorem Down.loc (K : Down X B a cls d pins σ H sI s) (hf : X.env.frame = some X.env.locals) : a ≠ X.env.locals := fun z => K.far (List.mem_filterMap.mpr ⟨X.env, .head _, by rw [hf, z]⟩)
theorem Down.out (K : Down X B a cls d pins σ H sI s) : a ∉ X.fs := fun z => by
  obtain ⟨x, h1, h2⟩ := List.mem_filterMap.mp z
  exact K.far (List.mem_filterMap.mpr ⟨x, .tail _ h1, h2⟩)
/-- it is new since sI -/
theorem Down.new (K : Down X B a cls d pins σ H sI s) (hs : X.stack = X.env :: X.outer) : sI.heap.get? a = none := by
  match e : sI.heap.get? a with
  | none => rfl
  | some o =>
    have q := K.gr a o e (hs ▸ K.far)
    rw [K.fly.2.1] at q
    cases q
theorem Down.new0 (K : Down X B a cls d pins σ H sI s) (hs : X.stack = X.env :: X.outer) (hex : X.ex = []) : X.s_0.heap.get? a = none := by
  match e : X.s_0.heap.get? a with
  | none => rfl
  | some o =>
    obtain ⟨o2, q⟩ := K.was.base.there a o e (hex ▸ List.not_mem_nil)
    rw [K.new hs] at q
    cases q
/-- seen from the suite -/
theorem Down.suite (K : Down X B a cls d pins σ H sI s) (hf : X.env.frame = some X.env.locals) : ∃ oe vs, Zc cls d oe ∧ oe.data = .fields vs ∧ Inv (X.suite a ((a, oe) :: (X.pn ++ pins))) [] σ H s := by
  obtain ⟨oe, vs, e1, e2, e3⟩ := K.fly.there
  exact ⟨oe, vs, e2, e3, K.inv.suite e1 e3 K.un (K.loc hf) K.out⟩
/-- behind the suite the exception's object is known -/
theorem Down.known (K : Down X B a cls d pins σ H sI s) (hs : X.stack = X.env :: X.outer) (hex : X.ex = []) (hf : X.env.frame = some X.env.locals) {oe : Obj} {vs : Array Value} (z : Zc cls d oe) (dd : oe.data = .fields vs) {σ2 : L2.St} {H2 : Hp} {s2 : Shared}
    (I : Inv (X.suite a ((a, oe) :: (X.pn ++ pins))) [] σ2 H2 s2) : Inv X pins σ2 (upd H2 a (EO cls d a)) s2 := by
  have p := I.pin (a, oe) (List.mem_append_left _ (.head _))
  refine inv_track (I.unsuite K.was.ok) p.2.1 (K.new0 hs hex) (K.loc hf) (fun y c e z => ?_) (fun q hq z => ?_) (eo_ok p.1 z dd)
  · obtain ⟨_, o, ho, _⟩ := K.was.cell y c e
    rw [z, K.new hs] at ho
    cases ho
  · have e := (K.was.pin q hq).1
    rw [z, K.new hs] at e
    cases e
/-- an exception in the air of a try's body, as it comes down -/
theorem Down.of {wx : WX} {pn : List (Addr × Obj)} {xe : Value → Shared → Prop} {u : Value} {s' : Shared} {Q : Unit → Shared → Prop} {E : Value → Shared → Prop} (ok : X.Ok) (hs : X.stack = X.env :: X.outer) (hf : X.env.frame = some X.env.locals) (x : XE (X.tr (X.pn ++ pn) xe) wx u s')
    (h : ∀ a B sI σ H cls d s2, u = .ref a → σ.length = X.N.length → wx cls d σ H → Down X B a cls d pn σ H sI s2 → Q () s2) :
    wpAny (model X.prog X.w) X.A (noteFrame u X.env) (fun _ s2 => wpAny (model X.prog X.w) X.A (setFlight u none) Q E s2) E s' := by
  obtain ⟨a, B, sI, ps, σ, H, cls, d, rfl, I, gr, up, sky, un, os, ag, w⟩ := x
  have sky2 : Sky B (X.env :: X.outer) a (Zc cls d) X.env.locals s'.heap := hs ▸ sky
  exact sky2.land Zc.steady (ok.frames.trans (congrArg some hs)) hf fun g f u => h a B sI σ H cls d _ rfl I.len w ⟨I.ofTry ok, gr, up.trans u, os, ag, f, un⟩
end
/-- what the clause 'except x as n' wishes of an exception of the body, where the exception is known behind the suite too -/
def wKept (K : PySem.W.Frag) (c : Value) (i l : Nat) (ts : Addr → Value → Option Addr → TS) (D : L2.Ends) : WX := fun cls d σ H =>
  PySem.W.exmOne K cls c = some true ∧ (σ.length = l → ∀ a, H a = none → ts a cls d ⟨fun σ' H' => D.nx (σ'.set i none) (upd H' a (EO cls d a)), fun _ _ => False, fun _ _ => False, fun _ _ => False⟩ (σ.set i (some (.ref a))) H)
section
variable {X : Cx} {x n : Str} {C : Addr} {i : Nat} {body suite : List Stmt} {b₀ : Stmt} {np pos pos' : Pos} {ts : Addr → Value → Option Addr → TS}
/-- the clause takes what came down -/
theorem kept_clause (hex : X.ex = []) (hs : X.stack = X.env :: X.outer) (hf : X.env.frame = some X.env.locals) (hN : X.N.Nodup) (hi : X.N[i]? = some n) (hln : X.env.kindOf n = some .local) (hg : Gl X x) (hm : X.mg x = some (.ref C)) (hx : (x == ("__debug__" : Str)) = false)
    (hsu : ∀ (a : Addr) (oe : Obj) (cls : Value) (d : Option Addr) (pn : List (Addr × Obj)), Zc cls d oe → (∃ vs, oe.data = .fields vs) → PSs (X.suite a ((a, oe) :: pn)) (b₀ :: suite) (ts a cls d))
    {B : Heap} {a : Addr} {cls : Value} {d : Option Addr} {pins : List (Addr × Obj)} {σ : L2.St} {H : Hp} {sI s : Shared} {D : L2.Ends} (hl : σ.length = X.N.length) (w : wKept X.K (.ref C) i X.N.length ts D cls d σ H) (K : Down X B a cls d pins σ H sI s) :
    wpAny (model X.prog X.w) X.A (handleBy (.ref a) X.env [.ExceptHandler (some (.Name x np)) (some n) (b₀ :: suite) pos']) (SP X pins D) X.xe s := by
  obtain ⟨w1, w2⟩ := w
  obtain ⟨oe, vs, z, dd, S⟩ := K.suite hf
  obtain ⟨_, _, e1, e2, _⟩ := K.fly.there
  have ty : PySem.W.Looks (model X.prog X.w) s.heap (typeOf (.ref a)) cls := fun A Q E t k q => wpAny_typeOf_ref (k _ _ e1) (by rw [e2.1]; exact q)
  have yes := PySem.W.exm_one (M := model X.prog X.w) K.inv.kIn ty w1
  have named : ∀ {Q : Value → Shared → Prop} {E : Value → Shared → Prop}, Q (.ref C) s → wpAny (model X.prog X.w) (X.A.mark (some (.ref a))) (eval (.Name x np) X.env) Q E s := fun q => ld_glob (X := X.suite a ((a, oe) :: (X.pn ++ pins))) S hg hm q hx
  refine wpAny_handleBy_cons (codeAny_handlers_test (named (yes.here ?_))) nofun
  refine codeAny_handlers_suite_as ?_
  refine HandSPX.lands_againZ K.fly fun g f u => ?_
  have K2 := K.on f u
  obtain ⟨oe2, vs2, z2, dd2, S2⟩ := K2.suite hf
  refine store_ok (X := X.suite a ((a, oe2) :: (X.pn ++ pins))) (v := .ref a) S2 hN hi (.inl hln) rfl (fun s5 S5 => wpAny_mono ((hsu a oe2 cls d _ z2 ⟨_, dd2⟩).run [] s5 _ H _ S5 (w2 hl a K.un)) (fun fl s6 q => ?_) fun _ _ no => no.elim) (.inr hln)
  cases fl with
  | next =>
    obtain ⟨σ6, H6, S6, q6⟩ := q
    exact gone_ok (K2.known hs hex hf z2 dd2 S6) hN hi hln fun s7 I7 => ⟨_, _, I7, q6⟩
  | brk => exact q.elim fun _ q => q.elim fun _ q => q.2.elim
  | cont => exact q.elim fun _ q => q.elim fun _ q => q.2.elim
  | ret u => exact q.elim fun _ q => q.elim fun _ q => q.elim fun _ q => q.2.2.elim
/-- what a try's body has reached is reached outside -/
theorem kept_through {pins : List (Addr × Obj)} {xe : Value → Shared → Prop} {D : L2.Ends} {E : Value → Shared → Prop} (ok : X.Ok) {fl : Flow} {s : Shared} : SP (X.tr (X.pn ++ pins) xe) [] D fl s →
    (match fl with | .next => wpAny (model X.prog X.w) X.A (execs [] X.env) (SP X pins D) E s | g => SP X pins D g s) := by
  intro h
  cases fl with
  | next => exact wpAny_execs_nil (h.elim fun σ h => h.elim fun H h => ⟨σ, H, h.1.ofTry ok, h.2⟩)
  | brk => exact h.elim fun σ h => h.elim fun H h => ⟨σ, H, h.1.ofTry ok, h.2⟩
  | cont => exact h.elim fun σ h => h.elim fun H h => ⟨σ, H, h.1.ofTry ok, h.2⟩
  | ret u => exact h.elim fun v h => h.elim fun σ h => h.elim fun H h => ⟨v, σ, H, h.1.ofTry ok, h.2⟩
/-- try: body / except x as n: suite, where every exception of the body is an x -/
theorem ps_try_kept {tb : WX → TS} (hex : X.ex = []) (hs : X.stack = X.env :: X.outer) (hf : X.env.frame = some X.env.locals) (hN : X.N.Nodup) (hi : X.N[i]? = some n) (hln : X.env.kindOf n = some .local) (hg : Gl X x) (hm : X.mg x = some (.ref C)) (hx : (x == ("__debug__" : Str)) = false)
    (hb : ∀ (wx : WX) (pn : List (Addr × Obj)) (xe : Value → Shared → Prop), Takes (X.tr pn xe) wx → PSs (X.tr pn xe) body (tb wx))
    (hsu : ∀ (a : Addr) (oe : Obj) (cls : Value) (d : Option Addr) (pn : List (Addr × Obj)), Zc cls d oe → (∃ vs, oe.data = .fields vs) → PSs (X.suite a ((a, oe) :: pn)) (b₀ :: suite) (ts a cls d)) :
    PS X (.Try body [.ExceptHandler (some (.Name x np)) (some n) (b₀ :: suite) pos'] [] [] pos) (fun D σ H => tb (wKept X.K (.ref C) i X.N.length ts D) D σ H) :=
  ⟨fun pins s σ H D I h => wpAny_Try_except (wpAny_mono ((hb _ (X.pn ++ pins) _ fun u s' air => Down.of I.ok hs hf air fun a B sI σ' H' cls d s2 e hl w K => by
    subst e
    exact kept_clause hex hs hf hN hi hln hg hm hx hsu hl w K).run [] s σ H D (I.toTry _) h) (fun fl s1 q => kept_through I.ok q) fun _ _ z => z)⟩
end
section
/-! ### isinstance of a kept error -/
def rIsEO (K : PySem.W.Frag) : List V → Hp → VK → Prop := fun xs H Q => ∃ (a D E : Addr) (b : Bool), xs = [.ref a, .ref E] ∧ H a = some (EO (.ref D) none a) ∧ ExcC K D ∧ PySem.W.kitOne K (.ref D) (.ref E) = some b ∧ Q (.bl b) H
theorem cr_isEO {X : Cx} : CallR X (.builtin "isinstance") (rIsEO X.K) := fun pins s σ H xs us Q I r h => by
  obtain ⟨a, D, E, b, rfl, ha, C, e, q⟩ := h
  match us, r with
  | [u1, u2], .cons r1 (.cons r2 .nil) =>
    obtain rfl : u1 = .ref a := r1
    obtain rfl : u2 = .ref E := r2
    obtain ⟨⟨oe, vs, o1, z, o2⟩, _⟩ := I.hok a _ ha
    have J : PySem.W.InstAt s.heap a oe D none := by
      cases oe
      cases z.1
      cases z.2
      cases o2
      exact ⟨o1, rfl, rfl, trivial⟩
    have kit := PySem.W.handS_kitx_exc (x := a) (ox := oe) C.hg C.hk C.hs C.hd C.ha C.hn C.ht C.hm
    exact PySem.W.kia_one kit I.kIn J e (fun z => nomatch z) fun tk => ⟨.bl b, H, I.kept (t' := tk) fun _ _ z => z, rfl, q⟩
theorem cr_isEOK {X : Cx} {K : PySem.W.Frag} (h : X.K = K := by rfl) : CallR X (.builtin "isinstance") (rIsEO K) := h ▸ cr_isEO
end
/-! ### caught -/
/-- what caught makes of its action's reading -/
def TCaught (K : PySem.W.Frag) : (XK → Hp → VK → Prop) → Hp → VK → Prop := fun tl H Q =>
  tl (fun cls d H' => PySem.W.exmOne K cls (.ref (He.ga K "HueError")) = some true ∧ ∀ a, H' a = none → Q (.ref a) (upd H' a (EO cls d a))) H fun _ H' => ∃ v, some (some V.non) = some (some v) ∧ Q v H'
section
def N_law_caught : List Str := [("_law_action" : Str), ("_law_found" : Str), ("error" : Str)]
theorem sc_law_caught : FnScope N_law_caught [("_law_action" : Str)] (defScope s_law_caught) := ⟨rfl, rfl, rfl, by decide +kernel, rfl, by decide +kernel, by decide +kernel⟩
theorem caught_gives {X : Cx} {q : Str} {g : Addr} {cdg : Value} (T : Txt X.K X.mg) : LamX.GivesTo X N_law_caught "_law_caught" (defScope s_law_caught) g cdg (defBody s_law_caught) "_law_action" q (TCaught X.K) := by
  intro f c' s H Q tl act hc h
  refine ⟨_, pss_cons (ps_set (i := 1) sc_law_caught.nd rfl (Or.inl rfl) pe_non)
    (pss_cons (ps_try_kept (X := (cxOf C8.CX0 X.prog X.w X.K X.mg X.base N_law_caught "_law_caught" (defScope s_law_caught) g cdg X.A X.stack s H C8.E0).nox) (C := He.ga X.K "HueError") (i := 2)
      (tb := fun W D σ H => ∃ Ech : XK, (∀ cls d σ' H', σ'.length = 3 → Ech cls d H' → W cls d σ' H') ∧ σ[0]? = some (some (.ref f)) ∧ H c' = some (LamX.CodeO c' q) ∧ tl Ech H fun _ H1 => D.nx σ H1)
      rfl rfl rfl sc_law_caught.nd rfl rfl rfl T.g_HueError (by decide) (fun W pn xe tk => ?_) (fun a oe cls d pn _ _ => pss_one (ps_set (i := 1) sc_law_caught.nd rfl (Or.inl rfl) (pv 2))))
      (pss_one (ps_ret (pv 1)))), ?_⟩
  · refine ⟨fun pins s' σ H' D I h' => ?_⟩
    obtain ⟨Ech, hW, h1, h2, h3⟩ := h'
    have tk2 : Takes ((cxOf C8.CX0 X.prog X.w X.K X.mg X.base N_law_caught "_law_caught" (defScope s_law_caught) g cdg X.A X.stack s H C8.E0).nox.tr pn xe) (fun cls d σ' H' => Ech cls d H') := fun u s2 ⟨a, B, sI, pins', σ', H', cls, d, e, I', nb, up, sky, na, os, ag, w⟩ =>
      tk u s2 ⟨a, B, sI, pins', σ', H', cls, d, e, I', nb, up, sky, na, os, ag, hW cls d σ' H' I'.len w⟩
    exact (pss_one (ps_expr (act _ pn xe Ech _ _ tk2 (fun _ _ _ _ z => z)))).run pins s' σ H' D I ⟨h1, h2, h3⟩
  · refine ⟨fun cls d H' => PySem.W.exmOne X.K cls (.ref (He.ga X.K "HueError")) = some true ∧ ∀ a, H' a = none → Q (.ref a) (upd H' a (EO cls d a)), fun cls d σ' H' hl ⟨e1, e2⟩ => ⟨e1, fun _ a na => ?_⟩, rfl, hc, ?_⟩
    · match σ', hl with
      | [x, y, z], _ => exact ⟨_, rfl, _, rfl, e2 a na⟩
    · exact h
end
/-! ### a call with keywords alone -/
def tCallK0 (sp : Sp) (gV : List V → List V → List V) (E : XK) (tk : TA) : TE := fun σ H Q => tk σ H fun zs H2 => sp (gV [] zs) H2 Q E
theorem pe_callK0 {X : Cx} {CX : CXT} {k : Nat} {f : Addr} {fd : FuncData} {ps ks : List Str} {sp : Sp} {E : XK} {x : Str} {p pos : Pos} {kws : List Keyword} {tk : TA} {g : List Value → List Value → List Value} {gV : List V → List V → List V}
    (F : FnOk X.prog X.w X.K X.mg X.base CX k f fd ps sp) (hr : Room k X.A) (hg : Gl X x) (hm : X.mg x = some (.ref f)) (hk : PySem.W.keepIn X.K (.ref f) = true) (hb : KBinds X.K fd ps ks g gV) (hx : Passes CX X E) (hkw : PK X kws tk)
    (hall : (backToKw pos (keywordEach kws X.env)).all (·.1.isSome) = true := by rfl) (hks : (backToKw pos (keywordEach kws X.env)).filterMap (·.1) = ks := by rfl) (hdb : (x == ("__debug__" : Str)) = false := by decide)
    (hpl : ((backTo pos (starEach [] X.env)).any (·.1) || (backToKw pos (keywordEach kws X.env)).any (·.1.isNone)) = false := by rfl) : PE X (.Call (.Name x p) [] kws pos) (tCallK0 sp gV E tk) := by
  refine ⟨fun pins s σ H Q I h => ?_⟩
  refine wpAny_Call_Name_kw (ld_glob I hg hm ?_ hdb)
  refine PySem.W.callWith_KW0 (h₀ := X.base) I.ok.mod.kin hk hall ?_ hpl
  refine thn (hkw.run pos pins s σ H _ I h) fun ws s2 ⟨zs, H2, I2, rz, q2⟩ => ⟨I2.kIn, ?_⟩
  rw [hks]
  exact run_fnk (us := []) (vs := []) F hr hb hx I2 .nil rz q2
def swap2 {α : Type} : List α → List α → List α
  | [], [v, c] => [c, v]
  | _, _ => []
theorem swap2_rel {vs : List V} {us : List Value} {zs : List V} {ws : List Value} (r : Vals vs us) (rz : Vals zs ws) : Vals (swap2 vs zs) (swap2 us ws) := by
  cases r with
  | cons _ _ => exact .nil
  | nil =>
    cases rz with
    | nil => exact .nil
    | cons a rz =>
      cases rz with
      | nil => exact .nil
      | cons b rz =>
        cases rz with
        | nil => exact .cons b (.cons a .nil)
        | cons _ _ => exact .nil
/-- widened(votes = .., code = ..) -/
theorem kb_widened {K : PySem.W.Frag} {f : Addr} {fd : FuncData} (F : FnP K "widened" "widened" s_widened f fd) : KBinds K fd [("code" : Str), ("votes" : Str)] [("votes" : Str), ("code" : Str)] swap2 swap2 := by
  refine ⟨fun s us ws X hl => ?_, fun r rz => swap2_rel r rz⟩
  obtain ⟨oc, od, dV, kV, doc, pm, an, cdv, ct, osl, rfl, lk, hcd, hD, _⟩ := F.ex
  match us, ws, hl with
  | [], [v, c], _ =>
    rcases hD with ⟨_, rfl⟩ | ⟨e, _⟩
    · exact BindsTo.of_eq rfl
    · exact absurd rfl e
/-- caught(lambda: body) -/
theorem pe_caught {X : Cx} {K : PySem.W.Frag} {mg : Str → Option Value} (T : Txt K mg) {g : Addr} {fdC : FuncData} (FC : FnP K "_law_caught" "_law_caught" s_law_caught g fdC) (gC : mg "_law_caught" = some (.ref g)) (hg : Gl X "_law_caught") {c P : Addr} (TB : LamX.TabB X.base mg c P) (hcode : X.env.code = .ref c)
    (hq : X.env.qual ++ "<lambda>" = ("_law_refused.<locals>.<lambda>" : Str)) {k : Nat} (hr : Room (k + 2) X.A) {params : Arguments} {body : Expr} {scope : Scope} {lpos p pos : Pos} {t : XK → TE} (L : LamX.LamS X.env.scope scope) (hdef : defaultsOf params X.env = ([], []))
    (hbind : ∀ (q : Str) (cl : List (Str × Addr)) (pm cv ctv : Value), bindArgs (PySem.W.kla_fn "<lambda>" q params body scope cl pm cv ctv) ⟨[], []⟩ = pure [])
    (hbody : ∀ (A : Around) (outer : List Env) (s : Shared) (H : Hp) (E : XK) (f c' : Addr), Room k (A.deeper (LamX.lamEnv X scope s.heap.objs.size f c')) → PE (LamX.lamCx X A outer s H E scope f c') body (t E)) (hK : X.K = K := by rfl) (hM : X.mg = mg := by rfl) :
    PE X (.Call (.Name "_law_caught" p) [.Lambda params body scope lpos] [] pos) (LamX.tLam [(P, ("_law_refused.<locals>.<lambda>" : Str))] (TCaught K) t) := by
  subst hK
  subst hM
  have hb := FC.bindsN (ps := [("_law_action" : Str)]) fun _ _ _ _ _ _ us hl => match us, hl with | [_], _ => rfl
  obtain ⟨oc, od, dV, kV, doc, pm, an, cdv, ct, osl, rfl, lk, hcd, hD, _⟩ := FC.ex
  rw [← hq]
  exact LamX.pe_lamcall (x := ("_law_caught" : Str)) (a := ("_law_action" : Str)) hg gC FC.kp lk hcd hb sc_law_caught rfl (Or.inl rfl) (caught_gives T) TB hcode (List.mem_singleton.mpr rfl) (fun p hp _ => by rw [List.mem_singleton.mp hp]) hr L hdef hbind hbody
end Hue
set_option Elab.async false
set_option linter.all false
set_option maxRecDepth 100000
set_option maxHeartbeats 4000000
set_option autoImplicit false
namespace Hue
open PySem PySem.Spec PyProof.Rows L2
def N_law_refused : List Str := [("_law_state" : Str), ("_law_code" : Str), ("_law_votes_here_here" : Str), ("_law_bad" : Str), ("_law_fine" : Str), ("_law_great" : Str), ("_law_odd" : Str)]
theorem sc_law_refused : FnScope N_law_refused [("_law_state" : Str), ("_law_code" : Str), ("_law_votes_here_here" : Str)] (defScope s_law_refused) := ⟨rfl, rfl, rfl, by decide +kernel, rfl, by decide +kernel, by decide +kernel⟩
abbrev lamQ : Str := ("_law_refused.<locals>.<lambda>" : Str)
/-! ### what refused keeps behind a lambda -/
theorem ext_of {H H' : Hp} (e : LamX.ExtN H H') {b : Addr} {o : HO} (h : H b = some o) (n : ∀ ps, o ≠ .tbl ps := by intro ps z; cases z) : H' b = some o := e b o h n
theorem ext_tup {H H' : Hp} (e : LamX.ExtN H H') : TSub H H' := fun _ _ h => ext_of e h
theorem same_upd {H : Hp} {a : Addr} {o : HO} (n : H a = none) : Same H (upd H a o) := fun b u e => by
  rw [upd_ne (ne_of_none e n)]
  exact e
theorem same_ext {H H' : Hp} (s : Same H H') : LamX.ExtN H H' := fun b o h _ => s b o h
theorem NotTup.ext {H H' : Hp} (e : LamX.ExtN H H') {x : V} (h : NotTup H x) : NotTup H' x := by
  cases x with
  | ref a =>
    obtain ⟨xs, q⟩ := h
    exact ⟨xs, ext_of e q⟩
  | _ => exact h
theorem CodeNot.ext {H H' : Hp} (e : LamX.ExtN H H') {x : V} (h : CodeNot H x) : CodeNot H' x := by
  rcases h with h | ⟨a, vs, r, h1, h2⟩ | ⟨a, C, r, h1, h2⟩
  · exact .inl (h.ext e)
  · exact .inr (.inl ⟨a, vs, r, ext_of e h1, h2⟩)
  · exact .inr (.inr ⟨a, C, r, IsCode.mo _ _ _ _ (ext_tup e) h1, h2⟩)
theorem VotesNot.ext {H H' : Hp} (e : LamX.ExtN H H') {x : V} (h : VotesNot H x) : VotesNot H' x := by
  rcases h with h | ⟨a, vs, r, h1, h2⟩
  · exact .inl (h.ext e)
  · exact .inr ⟨a, vs, r, ext_of e h1, h2⟩
theorem drawn_ne {st g c : Addr} {cs : List Int} {S : SV} {H H' : Hp} (l : LS H st g c cs S) (f : Fm [st, g] H H') {b : Addr} {xs : List V} (h : H b = some (.lst xs)) (n : b ≠ g) : H' b = some (.lst xs) := f.keep b _ h fun z => by
  rcases List.mem_cons.mp z with e | z
  · rw [e, l.s] at h
    cases h
  · exact n (by simpa using z)
theorem NotTup.drawn {st g c : Addr} {cs : List Int} {S : SV} {H H' : Hp} (l : LS H st g c cs S) (f : Fm [st, g] H H') {x : V} (h : NotTup H x) (n : ∀ b, x = .ref b → b ≠ g) : NotTup H' x := by
  cases x with
  | ref a =>
    obtain ⟨xs, q⟩ := h
    exact ⟨xs, drawn_ne l f q (n a rfl)⟩
  | _ => exact h
theorem CodeNot.drawn {st g c : Addr} {cs : List Int} {S : SV} {H H' : Hp} (l : LS H st g c cs S) (f : Fm [st, g] H H') {x : V} (h : CodeNot H x) (n : ∀ b, x = .ref b → b ≠ g) : CodeNot H' x := by
  rcases h with h | ⟨a, vs, r, h1, h2⟩ | ⟨a, C, r, h1, h2⟩
  · exact .inl (h.drawn l f n)
  · exact .inr (.inl ⟨a, vs, r, f.tup _ _ h1, h2⟩)
  · exact .inr (.inr ⟨a, C, r, IsCode.mo _ _ _ _ f.tup h1, h2⟩)
theorem VotesNot.drawn {st g c : Addr} {cs : List Int} {S : SV} {H H' : Hp} (l : LS H st g c cs S) (f : Fm [st, g] H H') {x : V} (h : VotesNot H x) (n : ∀ b, x = .ref b → b ≠ g) : VotesNot H' x := by
  rcases h with h | ⟨a, vs, r, h1, h2⟩
  · exact .inl (h.drawn l f n)
  · exact .inr ⟨a, vs, r, f.tup _ _ h1, h2⟩
structure RF (P st g c : Addr) (cs : List Int) (S : SV) (a : Addr) (C : Code) (va : Addr) (vs : List Int) (H : Hp) : Prop where
  l : LS H st g c cs S
  k : IsCode H a C
  v : H va = some (.tup (vs.map V.int))
  t : LamX.Tabs [(P, lamQ)] H
section
variable {P st g c a va : Addr} {cs vs : List Int} {S : SV} {C : Code} {H H' : Hp}
theorem RF.ext (r : RF P st g c cs S a C va vs H) (e : LamX.ExtN H H') (t : LamX.Tabs [(P, lamQ)] H') : RF P st g c cs S a C va vs H' :=
  ⟨⟨ext_of e r.l.s, ext_of e r.l.g_, ext_of e r.l.c_, r.l.gc, r.l.tl⟩, IsCode.mo _ _ _ _ (ext_tup e) r.k, ext_of e r.v, t⟩
theorem RF.same (r : RF P st g c cs S a C va vs H) (s : Same H H') : RF P st g c cs S a C va vs H' := r.ext (same_ext s) (r.t.ext s)
theorem tabs_drawn {T : List (Addr × Str)} (t : LamX.Tabs T H) (l : LS H st g c cs S) (f : Fm [st, g] H H') : LamX.Tabs T H' := fun p hp => by
  obtain ⟨ps, h1, h2, h3⟩ := t p hp
  have keep : ∀ {b : Addr} {o : HO}, H b = some o → (∀ kvs, o ≠ .dK kvs) → (∀ xs, o ≠ .lst xs) → H' b = some o := fun {b o} h n1 n2 => f.keep b o h fun z => by
    rcases List.mem_cons.mp z with e | z
    · rw [e, l.s] at h
      exact n1 _ (Option.some.inj h).symm
    · have e : b = g := by simpa using z
      rw [e, l.g_] at h
      exact n2 _ (Option.some.inj h).symm
  refine ⟨ps, keep h1 (fun _ z => by cases z) (fun _ z => by cases z), h2, fun pos cv hc => ?_⟩
  obtain ⟨c0, e1, e2⟩ := h3 pos cv hc
  exact ⟨c0, e1, keep e2 (fun _ z => by unfold LamX.CodeO at z; cases z) (fun _ z => by unfold LamX.CodeO at z; cases z)⟩
theorem RF.drawn {S' : SV} (r : RF P st g c cs S a C va vs H) (f : Fm [st, g] H H') (l : LS H' st g c cs S') : RF P st g c cs S' a C va vs H' :=
  ⟨l, IsCode.mo _ _ _ _ f.tup r.k, f.tup _ _ r.v, tabs_drawn r.t r.l f⟩
end
theorem w_lam {K : PySem.W.Frag} {T : List (Addr × Str)} {t : XK → TE} {σ : L2.St} {H : Hp} {Q : VK} (hT : LamX.Tabs T H)
    (h : ∀ H1, LamX.ExtN H H1 → LamX.Tabs T H1 → t (fun cls d H' => PySem.W.exmOne K cls (.ref (He.ga K "HueError")) = some true ∧ ∀ a, H' a = none → Q (.ref a) (upd H' a (EO cls d a))) σ H1 fun _ H' => ∃ v, some (some V.non) = some (some v) ∧ Q v H') : LamX.tLam T (TCaught K) t σ H Q := ⟨hT, h⟩
theorem w_isEO {K : PySem.W.Frag} {a D E : Addr} {H : Hp} {Q : VK} (h1 : H a = some (EO (.ref D) none a)) (h2 : ExcC K D) (h3 : PySem.W.kitOne K (.ref D) (.ref E) = some true) (h : Q (.bl true) H) : rIsEO K [.ref a, .ref E] H Q := ⟨a, D, E, true, rfl, h1, h2, h3, h⟩
def rRefused (P : Addr) : V → V → V → Hp → VK → XK → Prop := fun x y z H Q _ => ∃ (st g c a va : Addr) (cs vs : List Int) (S : SV) (C : Code), x = .ref st ∧ y = .ref a ∧ z = .ref va ∧ RF P st g c cs S a C va vs H ∧ S.t ≤ 1000000 ∧ One C ∧ VotesOk vs ∧ ∀ H', Q (.bl true) H'
theorem ok2 {C : Code} (h : One C) : (Code.mk [1, 2] C.size C.cells C.bank).Ok0 := by
  have ho := h.ok
  refine ⟨⟨by show (1 : Nat) ≤ 2; decide, by show (2 : Nat) ≤ 5; decide, fun i v e => ?_⟩, ho.s, ho.b, ho.bn, ho.c.2, fun x hx => ?_⟩
  · match i, e with
    | 0, e =>
      cases e
      decide
    | 1, e =>
      cases e
      decide
  · have := ho.cn x hx
    rw [h.v1] at this
    show x.Ok ((2 : Nat) : Int) C.size C.bank.length C.cells.length
    cases x with
    | ins j i => exact ⟨this.1, by have := this.2.1; omega, this.2.2⟩
    | shw p w => exact ⟨this.1, this.2.1, this.2.2.1, by have := this.2.2.2; omega⟩
    | turn g w => exact ⟨this.1, this.2.1, this.2.2.1, by have := this.2.2.2; omega⟩
    | take b w => exact ⟨this.1, this.2.1, by have := this.2.2; omega⟩
    | goto g => exact this
    | stop => trivial
    | mark => trivial
theorem ok0 {C : Code} (h : One C) : (Code.mk [1] C.size [] C.bank).Ok0 := ⟨votes1, h.ok.s, h.ok.b, h.ok.bn, Nat.zero_le _, fun x hx => by cases hx⟩
section
variable {P : Program} {w : World} {K : PySem.W.Frag} {mg : Str → Option Value} {base : Heap}
theorem ok_law_refused {f g0 c0 P0 : Addr} {fd fdC : FuncData} (F : FnP K "_law_refused" "_law_refused" s_law_refused f fd) (hm : mg "_law_refused" = some (.ref f)) (hcode : fd.code = .ref c0) (TB : LamX.TabB base mg c0 P0) (T : Txt K mg)
    (FC : FnP K "_law_caught" "_law_caught" s_law_caught g0 fdC) (gC : mg "_law_caught" = some (.ref g0))
    (C_law_pick : Cal P w K mg base CX0 3 "_law_pick" [("_law_state" : Str), ("_law_some" : Str)] (Sp2 rPick)) (C_law_draw : Cal P w K mg base CX0 2 "_law_draw" [("_law_state" : Str), ("_law_room" : Str)] (Sp2 rDraw))
    (C_widened : Cal P w K mg base (L2.CX P w) 7 "widened" [("code" : Str), ("votes" : Str)] (Sp2 (rWidened K))) (C_law_great_code : Cal P w K mg base CX0 3 "_law_great_code" [("_law_state" : Str), ("_law_hues_here" : Str)] (Sp2 rGreat)) :
    Cal P w K mg base CX0 10 "_law_refused" [("_law_state" : Str), ("_law_code" : Str), ("_law_votes_here_here" : Str)] (Sp3 (rRefused P0)) := by
  have kp := F.kp
  have bi := F.bindsN (ps := [("_law_state" : Str), ("_law_code" : Str), ("_law_votes_here_here" : Str)]) fun _ _ _ _ _ _ us hl => match us, hl with | [_, _, _], _ => rfl
  obtain ⟨oc, od, dV, kV, doc, pm, an, cdv, ct, osl, rfl, lk, hcd, hD, _⟩ := F.ex
  have hcode : cdv = .ref c0 := hcode
  subst hcode
  refine ⟨f, _, fn_of lk hcd sc_law_refused (fun vs H Q E h => ?_) (fun A outer s H vs Q E hr h => ⟨_, PSs.nox ((pss_cons (ps_set (i := 6) sc_law_refused.nd rfl (Or.inr rfl) (pe_cl C_law_pick hr (by decide) pass0 rfl (pa_cons (pv 0) (pa_cons (pe_lst (pa_cons pe_non (pa_cons pe_int (pa_cons (pe_tup pa_nil) (pa_cons (pe_slice (sl_tupK (K := K)) (pv 1) po_none (po_some pe_int)) (pa_cons (pe_callTy (cr_lstK (K := K)) (by rfl) T.b_list (by decide +kernel) (pa_cons (pv 1) pa_nil)) (pa_cons (pe_op (op_catAK (K := K)) (pe_tup (pa_cons (pe_tup (pa_cons pe_int (pa_cons pe_int pa_nil))) pa_nil)) (pe_slice (sl_tupK (K := K)) (pv 1) (po_some pe_int) po_none)) (pa_cons (pe_tup (pa_cons (pe_tup (pa_cons pe_int pa_nil)) (pa_cons (pe_ix (ix_tupK (K := K)) (pv 1) pe_int (fun _ _ => rfl)) (pa_cons (pe_tup pa_nil) (pa_cons (pe_ix (ix_tupK (K := K)) (pv 1) pe_int (fun _ _ => rfl)) pa_nil))))) pa_nil)))))))) pa_nil))))
      (pss_cons (ps_set (i := 3) sc_law_refused.nd rfl (Or.inr rfl) (pe_cl C_law_pick hr (by decide) pass0 rfl (pa_cons (pv 0) (pa_cons (pe_lst (pa_cons pe_non (pa_cons (pe_tup pa_nil) (pa_cons (pe_lst (pa_cons pe_int pa_nil)) (pa_cons (pe_tup (pa_cons pe_int pa_nil)) (pa_cons (pe_tup (pa_cons pe_int pa_nil)) (pa_cons (pe_tup (pa_cons pe_int (pa_cons pe_int pa_nil))) (pa_cons (pe_tup (pa_cons pe_int (pa_cons pe_int (pa_cons pe_int (pa_cons pe_int (pa_cons pe_int (pa_cons pe_int pa_nil))))))) (pa_cons (pe_tup (pa_cons pe_bl pa_nil)) (pa_cons pe_str pa_nil)))))))))) pa_nil))))
      (pss_cons (ps_if (pt_not (pt_val (pe_callB (cr_isEOK (K := K)) (by rfl) T.b_isinstance (by decide +kernel) (pa_cons (pe_caught T FC gC (by rfl) TB (by rfl) (by rfl) hr (LamX.lamS_by (sc := defScope s_law_refused) (by decide +kernel)) (by rfl) (fun _ _ _ _ _ => by rfl)
        (fun _ _ _ _ E _ _ hr2 => by exact (pe_cl C_widened hr2 (by decide) (passes_call (W := fun cls d _ H => E cls d H) (takes_of (E := E) rfl rfl rfl rfl) (fun _ _ _ _ h => h)) rfl (pa_cons (pv 6) (pa_cons (pv 3) pa_nil))))) (pa_cons (pe_glob (v := .ref (He.ga K "BadCode")) rfl T.g_BadCode rfl) pa_nil))))) (pss_one (ps_ret pe_bl)) pss_nil)
      (pss_cons (ps_if (pt_not (pt_val (pe_callB (cr_isEOK (K := K)) (by rfl) T.b_isinstance (by decide +kernel) (pa_cons (pe_caught T FC gC (by rfl) TB (by rfl) (by rfl) hr (LamX.lamS_by (sc := defScope s_law_refused) (by decide +kernel)) (by rfl) (fun _ _ _ _ _ => by rfl)
        (fun _ _ _ _ E _ _ hr2 => by exact (pe_cl C_widened hr2 (by decide) (passes_call (W := fun cls d _ H => E cls d H) (takes_of (E := E) rfl rfl rfl rfl) (fun _ _ _ _ h => h)) rfl (pa_cons (pv 1) (pa_cons (pv 3) pa_nil))))) (pa_cons (pe_glob (v := .ref (He.ga K "BadVotes")) rfl T.g_BadVotes rfl) pa_nil))))) (pss_one (ps_ret pe_bl)) pss_nil)
      (pss_cons (ps_if (pt_cmpR op_gt (pe_cl C_law_draw hr (by decide) pass0 rfl (pa_cons (pv 0) (pa_cons pe_int pa_nil))) pe_int (nomark _)) (pss_one (ps_ret pe_bl)) pss_nil)
      (pss_cons (ps_asg (pe_cl C_law_great_code hr (by decide) pass0 rfl (pa_cons (pv 0) (pa_cons (pe_callB (cr_lenK (K := K)) (by rfl) T.b_len (by decide +kernel) (pa_cons (pv 2) pa_nil)) pa_nil))) (pg_lst rfl (pgs_cons (pg_name (i := 4) sc_law_refused.nd rfl (Or.inr rfl)) (pgs_cons (pg_name (i := 5) sc_law_refused.nd rfl (Or.inr rfl)) pgs_nil))))
      (pss_cons (ps_if (pt_cmpR op_notN1 (pe_caught T FC gC (by rfl) TB (by rfl) (by rfl) hr (LamX.lamS_by (sc := defScope s_law_refused) (by decide +kernel)) (by rfl) (fun _ _ _ _ _ => by rfl)
        (fun _ _ _ _ E _ _ hr2 => by exact (pe_cl C_widened hr2 (by decide) (passes_call (W := fun cls d _ H => E cls d H) (takes_of (E := E) rfl rfl rfl rfl) (fun _ _ _ _ h => h)) rfl (pa_cons (pv 4) (pa_cons (pv 2) pa_nil))))) pe_non (nomark _)) (pss_one (ps_ret pe_bl)) pss_nil)
      (pss_one (ps_ret (pe_or (pe_cmpR op_eq (pe_callB (cr_lenK (K := K)) (by rfl) T.b_len (by decide +kernel) (pa_cons (pv 2) pa_nil)) pe_int (nomark _)) (pe_one (pe_callB (cr_isEOK (K := K)) (by rfl) T.b_isinstance (by decide +kernel) (pa_cons (pe_caught T FC gC (by rfl) TB (by rfl) (by rfl) hr (LamX.lamS_by (sc := defScope s_law_refused) (by decide +kernel)) (by rfl) (fun _ _ _ _ _ => by rfl)
        (fun _ _ _ _ E _ _ hr2 => by exact (pe_cl C_widened hr2 (by decide) (passes_call (W := fun cls d _ H => E cls d H) (takes_of (E := E) rfl rfl rfl rfl) (fun _ _ _ _ h => h)) rfl (pa_cons (pv 5) (pa_cons (pv 2) pa_nil))))) (pa_cons (pe_glob (v := .ref (He.ga K "TooLarge")) rfl T.g_TooLarge rfl) pa_nil))))))))))))))), ?_⟩), hm, kp, bi⟩
  · obtain ⟨a, b, c, rfl, _⟩ := h
    rfl
  · obtain ⟨x, y, z, rfl, st, g, c, a, va, cs, vs, S, C, rfl, rfl, rfl, rf, hT, one, hv, q⟩ := h
    have gc := rf.l.gc
    have v1 := hv.1
    have v5 := hv.2.1
    obtain ⟨wa, ca, ba, as, hC⟩ := rf.k
    have kn := (rf.l.kn.tps (T' := [(a, [.ref wa, .int C.size, .ref ca, .ref ba]), (va, vs.map V.int)]) (fun q hq => by
      simp only [List.mem_cons, List.not_mem_nil, or_false] at hq
      rcases hq with e | e <;> rw [e]
      · exact hC.top
      · exact rf.v)).imp (CodeAt.mo a C wa ca ba as) fun _ => hC
    walk_at "wp"
    refine w_kTup kn rfl fun o0 H1 kn => ?_
    walk_at "wp"
    refine w_slT kn (SqT.of (kn.t 1 rfl)) (fun z => absurd (show (3 : Nat) = 4 from z.2) (by decide)) fun o1 H2 kn => ?_
    walk_at "wp"
    refine w_lstOf kn (.inr (SqT.of (kn.t 2 rfl))) fun o2 H3 kn => ?_
    walk_at "wp"
    refine w_kTup kn rfl fun p12 H4 kn => ?_
    walk_at "wp"
    refine w_kTup kn rfl fun q12 H5 kn => ?_
    walk_at "wp"
    refine w_slT kn (SqT.of (kn.t 4 rfl)) (fun z => absurd (show (1 : Nat) = 0 from z.1) (by decide)) fun s1 H6 kn => ?_
    refine w_catT kn (SqT.of (kn.t 1 rfl)) (SqT.of (kn.t 0 rfl)) (by show (1 : Nat) + 3 ≤ _; decide) (fun z => by cases z) (fun z => by cases z) fun o3 H7 kn => ?_
    walk_at "wp"
    refine w_kTup kn rfl fun p1 H8 kn => ?_
    walk_at "wp"
    refine w_ixT (SqT.of (kn.t 7 rfl)) rfl ?_
    walk_at "wp"
    refine w_kTup kn rfl fun e1 H9 kn => ?_
    walk_at "wp"
    refine w_ixT (SqT.of (kn.t 8 rfl)) rfl ?_
    walk_at "wp"
    refine w_kTup kn rfl fun o4 H10 kn => ?_
    walk_at "wp"
    refine w_kLst kn rfl fun ol H11 kn => ?_
    walk_at "wp"
    have kn := kn.pmn 4 [2, 3, 0, 1] (by decide) (by decide)
    walk_at "pm"
    have hC11 := kn.pp
    have hg11 := kn.l 1 rfl
    have nt : ∀ {b : Addr} {xs : List V}, H11 b = some (.tup xs) → ∀ d, V.ref b = .ref d → d ≠ g := fun {b xs} h d e => by
      cases e
      exact ne_of h hg11 (by intro z; cases z)
    have nn : ∀ v ∈ [V.non, .int 5, .ref o0, .ref o1, .ref o2, .ref o3, .ref o4], CodeNot H11 v ∧ ∀ b, v = .ref b → b ≠ g := fun v hv => by
      simp only [List.mem_cons, List.not_mem_nil, or_false] at hv
      rcases hv with e | e | e | e | e | e | e <;> rw [e]
      · exact ⟨.inl trivial, fun b z => by cases z⟩
      · exact ⟨.inl trivial, fun b z => by cases z⟩
      · exact ⟨.inr (.inl ⟨o0, [], rfl, kn.t 8 rfl, by decide⟩), nt (kn.t 8 rfl)⟩
      · exact ⟨.inr (.inl ⟨o1, _, rfl, kn.t 7 rfl, by show (3 : Nat) ≠ 4; decide⟩), nt (kn.t 7 rfl)⟩
      · refine ⟨.inl ⟨_, kn.l 3 rfl⟩, fun b z => ?_⟩
        cases z
        exact kn.ne 3 1 rfl rfl (by decide)
      · exact ⟨.inr (.inr ⟨o3, ⟨[1, 2], C.size, C.cells, C.bank⟩, rfl, ⟨p12, ca, ba, as, kn.t 3 rfl, kn.t 6 rfl, hC11.ct, hC11.bt, hC11.cs⟩, ok2 one, .inr (by show (2 : Nat) ≠ 1; decide)⟩), nt (kn.t 3 rfl)⟩
      · exact ⟨.inr (.inr ⟨o4, ⟨[1], C.size, [], C.bank⟩, rfl, ⟨p1, e1, ba, [], kn.t 0 rfl, kn.t 2 rfl, kn.t 1 rfl, hC11.bt, .nil⟩, ok0 one, .inl rfl⟩), nt (kn.t 0 rfl)⟩
    have l11 : LS H11 st g c cs S := ⟨kn.l 0 rfl, kn.l 1 rfl, kn.r 0 rfl, gc, rf.l.tl⟩
    have rf := rf.drawn kn.fr l11
    refine ⟨st, g, c, ol, cs, S, _, rfl, rfl, l11, by omega, kn.l 2 rfl, kn.ne 2 1 rfl rfl (by decide), by show (0 : Nat) < 7; decide, by show (7 : Nat) ≤ 100000; decide, fun i odd H12 S12 hodd f12 l12 t12 => ?_⟩
    obtain ⟨hodd, nodd⟩ := nn odd (List.mem_of_getElem? hodd)
    have hodd := hodd.drawn l11 f12 nodd
    have rf := rf.drawn f12 l12
    clear nn nt hC11 hg11 l11 kn hC
    have kn := rf.l.kn
    walk_at "wp"
    refine w_kTup kn rfl fun b0 H13 kn => ?_
    walk_at "wp"
    refine w_kLst kn rfl fun b1 H14 kn => ?_
    walk_at "wp"
    refine w_kTup kn rfl fun b2 H15 kn => ?_
    walk_at "wp"
    refine w_kTup kn rfl fun b3 H16 kn => ?_
    walk_at "wp"
    refine w_kTup kn rfl fun b4 H17 kn => ?_
    walk_at "wp"
    refine w_kTup kn rfl fun b5 H18 kn => ?_
    walk_at "wp"
    refine w_kTup kn rfl fun b6 H19 kn => ?_
    walk_at "wp"
    refine w_kLst kn rfl fun bl H20 kn => ?_
    walk_at "wp"
    have kn := kn.pmn 4 [2, 3, 0, 1] (by decide) (by decide)
    walk_at "pm"
    have hg20 := kn.l 1 rfl
    have nt : ∀ {b : Addr} {xs : List V}, H20 b = some (.tup xs) → ∀ d, V.ref b = .ref d → d ≠ g := fun {b xs} h d e => by
      cases e
      exact ne_of h hg20 (by intro z; cases z)
    have fl : ∀ {vs : List V}, vs.all flatV = true → ∀ v ∈ vs, flatV v = true := fun h => List.all_eq_true.mp h
    have nn : ∀ v ∈ [V.non, .ref b0, .ref b1, .ref b2, .ref b3, .ref b4, .ref b5, .ref b6, .str "1"], VotesNot H20 v ∧ ∀ b, v = .ref b → b ≠ g := fun v hv => by
      simp only [List.mem_cons, List.not_mem_nil, or_false] at hv
      rcases hv with e | e | e | e | e | e | e | e | e <;> rw [e]
      · exact ⟨.inl trivial, fun b z => by cases z⟩
      · exact ⟨.inr ⟨b0, _, rfl, kn.t 5 rfl, fl rfl, by decide⟩, nt (kn.t 5 rfl)⟩
      · refine ⟨.inl ⟨_, kn.l 3 rfl⟩, fun b z => ?_⟩
        cases z
        exact kn.ne 3 1 rfl rfl (by decide)
      · exact ⟨.inr ⟨b2, _, rfl, kn.t 4 rfl, fl rfl, by decide⟩, nt (kn.t 4 rfl)⟩
      · exact ⟨.inr ⟨b3, _, rfl, kn.t 3 rfl, fl rfl, by decide⟩, nt (kn.t 3 rfl)⟩
      · exact ⟨.inr ⟨b4, _, rfl, kn.t 2 rfl, fl rfl, by decide⟩, nt (kn.t 2 rfl)⟩
      · exact ⟨.inr ⟨b5, _, rfl, kn.t 1 rfl, fl rfl, by decide⟩, nt (kn.t 1 rfl)⟩
      · exact ⟨.inr ⟨b6, _, rfl, kn.t 0 rfl, fl rfl, by decide⟩, nt (kn.t 0 rfl)⟩
      · exact ⟨.inl trivial, fun b z => by cases z⟩
    have hodd := hodd.drawn rf.l kn.fr nodd
    have l20 : LS H20 st g c cs S12 := ⟨kn.l 0 rfl, kn.l 1 rfl, kn.r 0 rfl, gc, l12.tl⟩
    have rf := rf.drawn kn.fr l20
    refine ⟨st, g, c, bl, cs, S12, _, rfl, rfl, l20, by omega, kn.l 2 rfl, kn.ne 2 1 rfl rfl (by decide), by show (0 : Nat) < 9; decide, by show (9 : Nat) ≤ 100000; decide, fun i bad H21 S21 hbad f21 l21 t21 => ?_⟩
    obtain ⟨hbad, nbad⟩ := nn bad (List.mem_of_getElem? hbad)
    have hbad := hbad.drawn l20 f21 nbad
    have hodd := hodd.drawn l20 f21 nodd
    have rf := rf.drawn f21 l21
    clear nn nt hg20 l20 kn fl
    -- an odd code
    walk_at "wp"
    refine w_lam rf.t fun H22 e22 t22 => ?_
    have hbad := hbad.ext e22
    have hodd := hodd.ext e22
    have rf := rf.ext e22 t22
    walk_at "wp"
    refine .inl ⟨hodd, fun H23 s23 => ⟨T.e_BadCode, fun x23 n23 => ?_⟩⟩
    have s24 : Same H22 (upd H23 x23 (EO (.ref (He.ga K "BadCode")) none x23)) := fun b o e => same_upd n23 b o (s23 b o e)
    have hbad := hbad.ext (same_ext s24)
    have rf := rf.same s24
    have hx : upd H23 x23 (EO (.ref (He.ga K "BadCode")) none x23) x23 = some (EO (.ref (He.ga K "BadCode")) none x23) := upd_same
    generalize upd H23 x23 (EO (.ref (He.ga K "BadCode")) none x23) = H24 at s24 hbad rf hx
    walk_at "wp"
    refine w_isEO hx T.c_BadCode T.k_BadCode ?_
    walk_at "wp"
    clear hx s24
    -- odd votes
    refine w_lam rf.t fun H25 e25 t25 => ?_
    have hbad := hbad.ext e25
    have rf := rf.ext e25 t25
    walk_at "wp"
    refine .inr ⟨a, C, rfl, rf.k, one.ok, one.v1, .inl ⟨hbad, fun H26 s26 => ⟨T.e_BadVotes, fun x26 n26 => ?_⟩⟩⟩
    have s27 : Same H25 (upd H26 x26 (EO (.ref (He.ga K "BadVotes")) none x26)) := fun b o e => same_upd n26 b o (s26 b o e)
    have rf := rf.same s27
    have hx : upd H26 x26 (EO (.ref (He.ga K "BadVotes")) none x26) x26 = some (EO (.ref (He.ga K "BadVotes")) none x26) := upd_same
    generalize upd H26 x26 (EO (.ref (He.ga K "BadVotes")) none x26) = H27 at s27 rf hx
    walk_at "wp"
    refine w_isEO hx T.c_BadVotes T.k_BadVotes ?_
    walk_at "wp"
    clear hx s27
    refine ⟨st, g, c, cs, S21, 4, rfl, rfl, rf.l, by omega, by decide, by decide, fun d H28 S28 d0 d1 f28 l28 t28 => ?_⟩
    have rf := rf.drawn f28 l28
    walk_at "wp"
    refine kIf_d (fun _ => ?_) fun _ => ?_
    · walk_at "wp"
      exact q _
    -- great codes
    have hsv : SqT K H28 va (vs.map V.int) := SqT.of rf.v
    walk_at "wp"
    rw [List.length_map]
    refine ⟨st, g, c, cs, S28, (vs.length : Int), rfl, rfl, rf.l, by omega, by omega, by omega, fun r ga gb gd H29 S29 hd hr hga hgb f29 l29 t29 => ?_⟩
    have rf := rf.drawn f29 l29
    walk_at "wp"
    refine w_lam rf.t fun H30 e30 t30 => ?_
    have hga := IsCode.mo _ _ _ _ (ext_tup e30) hga
    have hgb := IsCode.mo _ _ _ _ (ext_tup e30) hgb
    have rf := rf.ext e30 t30
    walk_at "wp"
    have h1 : (1 : Int) ≤ (vs.length : Nat) := by omega
    have h5 : ((vs.length : Nat) : Int) ≤ 5 := by omega
    refine w_widenedOk hga (great_ok h1 h5 hd) rfl rf.v hv (by show tot _ (greatCells _ _) ≤ 4000; rw [great_tot h1 h5]; decide) fun r2 H31 s31 _ => ?_
    have hgb := IsCode.mo _ _ _ _ (fun b xs h => s31 b _ h) hgb
    have rf := rf.same s31
    have hsv : SqT K H31 va (vs.map V.int) := SqT.of rf.v
    refine ⟨_, rfl, ?_⟩
    walk_at "wp"
    rw [List.length_map]
    refine kIf_d (fun _ => q _) fun hne => ?_
    have h2 : (2 : Int) ≤ (vs.length : Nat) := by omega
    walk_at "wp"
    refine w_lam rf.t fun H32 e32 t32 => ?_
    have hgb := IsCode.mo _ _ _ _ (ext_tup e32) hgb
    have rf := rf.ext e32 t32
    walk_at "wp"
    refine w_widenedGreat hgb (great2_ok h2 h5 hd) rfl rf.v hv (by show 4000 < tot _ (greatCells _ _ ++ [Cell.stop]); rw [great2_tot h1 h5]; decide) fun H33 s33 => ⟨T.e_TooLarge, fun x33 n33 => ?_⟩
    walk_at "wp"
    refine w_isEO upd_same T.c_TooLarge T.k_TooLarge ?_
    exact q _
end
end Hue
set_option Elab.async false
set_option linter.all false
set_option maxRecDepth 100000
set_option maxHeartbeats 4000000
set_option autoImplicit false
namespace Hue
open PySem PySem.Spec PyProof.Rows L2
def N_law : List Str := [("_law_script" : Str), ("_law_state" : Str), ("_law_turn" : Str), ("_law_code" : Str), ("_law_votes_here_here" : Str), ("_law_others" : Str), ("_law_inputs_here" : Str), ("_law_wide" : Str), ("_law_hue" : Str)]
theorem sc_law : FnScope N_law [("_law_script" : Str)] (defScope s_law) := ⟨rfl, rfl, rfl, by decide +kernel, rfl, by decide +kernel, by decide +kernel⟩
/-! ### the law -/
theorem sqL_same {K : PySem.W.Frag} {H H' : Hp} {a : Addr} {xs : List V} (s : Same H H') (h : SqL K H a xs) : SqL K H' a xs := by
  rcases h with h | h
  · rcases h with h | ⟨o, h⟩
    · exact .inl (.inl (s _ _ h))
    · exact .inl (.inr ⟨o, s _ _ h⟩)
  · exact .inr h
structure LF (P0 st g c : Addr) (cs : List Int) (S : SV) (H : Hp) : Prop where
  l : LS H st g c cs S
  p : H P0 = some (.tbl #[])
section
variable {P0 st g c a : Addr} {cs vs : List Int} {S S' : SV} {C : Code} {H H' : Hp}
theorem LF.same (r : LF P0 st g c cs S H) (s : Same H H') : LF P0 st g c cs S H' := ⟨⟨s _ _ r.l.s, s _ _ r.l.g_, s _ _ r.l.c_, r.l.gc, r.l.tl⟩, s _ _ r.p⟩
theorem LF.drawn (r : LF P0 st g c cs S H) (f : Fm [st, g] H H') (l : LS H' st g c cs S') : LF P0 st g c cs S' H' := ⟨l, f.keep _ _ r.p fun z => by
  have hp := r.p
  rcases List.mem_cons.mp z with e | z
  · rw [e, r.l.s] at hp
    cases hp
  · have e : P0 = g := by simpa using z
    rw [e, r.l.g_] at hp
    cases hp⟩
theorem code_same (s : Same H H') (h : IsCode H a C) : IsCode H' a C := IsCode.mo _ _ _ _ (fun b xs h => s b _ h) h
theorem code_drawn {M : List Addr} (f : Fm M H H') (h : IsCode H a C) : IsCode H' a C := IsCode.mo _ _ _ _ f.tup h
end
theorem w_kw {sp : Sp} {E : XK} {tk : TA} {σ : L2.St} {H : Hp} {Q : VK} (h : tk σ H fun zs H2 => sp (swap2 [] zs) H2 Q E) : tCallK0 sp swap2 E tk σ H Q := h
def rLaw (K : PySem.W.Frag) (P0 : Addr) : V → Hp → VK → XK → Prop := fun x H Q _ => ∃ (a : Addr) (ns : List Int), x = .ref a ∧ SqL K H a (ns.map V.int) ∧ ns.length ≤ 63 ∧ H P0 = some (.tbl #[]) ∧ ∀ H', Q (.bl true) H'
section
variable {P : Program} {w : World} {K : PySem.W.Frag} {mg : Str → Option Value} {base : Heap}
theorem ok_law {f P0 : Addr} {fd : FuncData} (F : FnP K "law" "law" s_law f fd) (T : Txt K mg) (CW : CalF P w K mg base (L2.CX P w) 7 "widened" s_widened [("code" : Str), ("votes" : Str)] (Sp2 (rWidened K)))
    (C_narrowed : Cal P w K mg base (L2.CX P w) 7 "narrowed" [("code" : Str), ("hue" : Str)] (Sp2 rNarrowed)) (C_law_begun : Cal P w K mg base CX0 1 "_law_begun" [("_law_script" : Str)] (Sp1 (rBegun K)))
    (C_law_draw : Cal P w K mg base CX0 2 "_law_draw" [("_law_state" : Str), ("_law_room" : Str)] (Sp2 rDraw)) (C_law_loose_code : Cal P w K mg base CX0 6 "_law_loose_code" [("_law_state" : Str)] (Sp1 rLoose))
    (C_law_any_code : Cal P w K mg base CX0 7 "_law_any_code" [("_law_state" : Str), ("_law_votes_here" : Str)] (Sp2 rAny)) (C_law_votes : Cal P w K mg base CX0 4 "_law_votes" [("_law_state" : Str)] (Sp1 rVotes))
    (C_law_inputs : Cal P w K mg base CX0 4 "_law_inputs" [("_law_state" : Str)] (Sp1 rInputs)) (C_law_weave_widened : Cal P w K mg base CX0 2 "_law_weave_widened" [("_law_code" : Str), ("_law_votes_here_here" : Str)] (Sp2 rWWide))
    (C_law_runs_right : Cal P w K mg base CX0 4 "_law_runs_right" [("_law_code" : Str), ("_law_wide" : Str), ("_law_inputs_here" : Str)] (Sp3 rRunsRight))
    (C_law_refused : Cal P w K mg base CX0 10 "_law_refused" [("_law_state" : Str), ("_law_code" : Str), ("_law_votes_here_here" : Str)] (Sp3 (rRefused P0))) :
    FnOk P w K mg base CX0 11 f fd [("_law_script" : Str)] (Sp1 (rLaw K P0)) := by
  have C_widened := CW.widened
  obtain ⟨fW, fdW, FnW, FW, gW⟩ := CW.ex
  have kW := FnW.kp
  have kbW := kb_widened FnW
  refine F.ok sc_law (fun vs H Q E h => ?_) (fun cdv A outer s H vs Q E hr h => ⟨_, PSs.nox ((pss_cons (ps_set (i := 1) sc_law.nd rfl (Or.inl rfl) (pe_cl C_law_begun hr (by decide) pass0 rfl (pa_cons (pv 0) pa_nil)))
      (pss_cons (ps_for PassesOwn.never rfl (pi_range1 rfl T.b_range (pa_cons (pe_op op_add pe_int (pe_callB (cr_min2 rfl) (by rfl) T.b_min (by decide +kernel) (pa_cons (pe_callB (cr_lenK (K := K)) (by rfl) T.b_len (by decide +kernel) (pa_cons (pv 0) pa_nil)) (pa_cons pe_int pa_nil)))) pa_nil)) (pg_name (i := 2) sc_law.nd rfl (Or.inl rfl)) (C8.pss_cut (ps_set (i := 3) sc_law.nd rfl (Or.inl rfl) (pe_ifExp (pt_cmpR op_gt (pe_cl C_law_draw hr (by decide) pass0 rfl (pa_cons (pv 1) (pa_cons pe_int pa_nil))) pe_int (nomark _)) (pe_cl C_law_loose_code hr (by decide) pass0 rfl (pa_cons (pv 1) pa_nil)) (pe_cl C_law_any_code hr (by decide) pass0 rfl (pa_cons (pv 1) (pa_cons (pe_tup (pa_cons pe_int pa_nil)) pa_nil)))))
      (pss_cons (ps_par3 (i := 4) (j := 5) (l := 6) (by rfl) sc_law.nd rfl rfl rfl (by decide) (by decide) (by decide) rfl rfl rfl (pa_cons (pe_cl C_law_votes hr (by decide) pass0 rfl (pa_cons (pv 1) pa_nil)) (pa_cons (pe_cl C_law_votes hr (by decide) pass0 rfl (pa_cons (pv 1) pa_nil)) (pa_cons (pe_cl C_law_inputs hr (by decide) pass0 rfl (pa_cons (pv 1) pa_nil)) pa_nil))) (by rfl))
      (pss_cons (ps_set (i := 7) sc_law.nd rfl (Or.inl rfl) (pe_callK0 FW (hr.mono (by decide)) rfl gW kW kbW passL (pk_cons (pv 4) (pk_cons (pv 3) pk_nil))))
      (pss_cons (ps_if (PW.pt (pw_or (pt_cmpR (op_neDK (K := K) hr.units) (pv 7) (pe_cl C_law_weave_widened hr (by decide) pass0 rfl (pa_cons (pv 3) (pa_cons (pv 4) pa_nil))) (nomark _)) (pw_or1 (pt_not (pt_val (pe_cl C_law_runs_right hr (by decide) pass0 rfl (pa_cons (pv 3) (pa_cons (pv 7) (pa_cons (pv 6) pa_nil))))))))) (pss_one (ps_ret pe_bl)) pss_nil)
      (pss_cons (ps_set (i := 8) sc_law.nd rfl (Or.inl rfl) (pe_cl C_law_draw hr (by decide) pass0 rfl (pa_cons (pv 1) (pa_cons (pe_callB (cr_lenK (K := K)) (by rfl) T.b_len (by decide +kernel) (pa_cons (pv 4) pa_nil)) pa_nil))))
      (pss_one (ps_if (PW.pt (pw_or (pt_cmpR (op_neDK (K := K) hr.units) (pe_cl C_narrowed hr (by decide) passL rfl (pa_cons (pv 7) (pa_cons (pv 8) pa_nil))) (pv 3) (nomark _)) (pw_or1 (pt_cmpR (op_neDK (K := K) hr.units) (pe_cl C_widened hr (by decide) passL rfl (pa_cons (pe_cl C_narrowed hr (by decide) passL rfl (pa_cons (pv 7) (pa_cons (pv 8) pa_nil))) (pa_cons (pv 5) pa_nil))) (pe_cl C_law_weave_widened hr (by decide) pass0 rfl (pa_cons (pv 3) (pa_cons (pv 5) pa_nil))) (nomark _))))) (pss_one (ps_ret pe_bl)) pss_nil))))))))
      (pss_one (ps_ret (pe_cl C_law_refused hr (by decide) pass0 rfl (pa_cons (pv 1) (pa_cons (pv 3) (pa_cons (pv 4) pa_nil))))))))), ?_⟩)
  · obtain ⟨a, rfl, _⟩ := h
    rfl
  · obtain ⟨x, rfl, a, ns, rfl, ha, hl, hP, q⟩ := h
    walk_at "wp"
    refine ⟨a, ns, rfl, ha, hl, fun st g c cs H1 S1 s1 _ _ _ l1 t1 => ?_⟩
    have lf1 : LF P0 st g c cs S1 H1 := ⟨l1, s1 _ _ hP⟩
    have ha1 := sqL_same s1 ha
    clear hP ha
    walk_at "wp"
    have hb : ∀ n : Int, 0 ≤ n → 2 ≤ (2 + (if (2 : Int) < n then 2 else n)) ∧ (2 + (if (2 : Int) < n then 2 else n)) ≤ 4 := fun n hn => by
      split <;> omega
    have hb := hb ((ns.map V.int).length : Int) (Int.natCast_nonneg _)
    generalize (2 + if (2 : Int) < ((ns.map V.int).length : Int) then 2 else ((ns.map V.int).length : Int)) = j at hb ⊢
    refine w_forR ⟨by omega, by omega⟩ (fun i σ' H' => ∃ (S' : SV) (a2 a3 a4 a5 a6 a7 a8 : Option V), σ' = [some (.ref a), some (.ref st), a2, a3, a4, a5, a6, a7, a8] ∧ LF P0 st g c cs S' H' ∧ S'.t ≤ 40000 * i ∧
        (i = 0 ∨ ∃ (ca va : Addr) (C : Code) (vs : List Int), a3 = some (.ref ca) ∧ a4 = some (.ref va) ∧ IsCode H' ca C ∧ One C ∧ H' va = some (.tup (vs.map V.int)) ∧ VotesOk vs))
      ⟨S1, none, none, none, none, none, none, none, rfl, lf1, by omega, .inl rfl⟩ (fun i σ' H' hi hp => ?_) (fun σ' H' hp => ?_)
    · obtain ⟨S', a2, a3, a4, a5, a6, a7, a8, rfl, lf, ht, _⟩ := hp
      walk_at "wp"
      refine ⟨fun σ' H' => ∃ (S2 : SV) (ca : Addr) (C : Code), σ' = [some (.ref a), some (.ref st), some (.int i), some (.ref ca), a4, a5, a6, a7, a8] ∧ LF P0 st g c cs S2 H' ∧ S2.t ≤ S'.t + 30001 ∧ IsCode H' ca C ∧ One C, ?_, fun σ2 H2 hm => ?_⟩
      · walk_at "wp"
        refine ⟨st, g, c, cs, S', 3, rfl, rfl, lf.l, by omega, by decide, by decide, fun d H2 S2 d0 d1 f2 l2 t2 => ?_⟩
        have lf := lf.drawn f2 l2
        walk_at "wp"
        refine kIf_d (fun _ => ?_) fun _ => ?_
        · walk_at "wp"
          refine ⟨st, g, c, cs, S2, rfl, l2, by omega, fun ca C H3 S3 hC hok hv hlc f3 l3 t3 => ?_⟩
          walk_at "wp"
          exact ⟨S3, ca, C, rfl, lf.drawn f3 l3, by omega, hC, ⟨hok, hv, hlc⟩⟩
        · walk_at "wp"
          refine w_kTup l2.kn rfl fun p H3 kn => ?_
          walk_at "wp"
          have l3 : LS H3 st g c cs S2 := ⟨kn.l 0 rfl, kn.l 1 rfl, kn.r 0 rfl, l2.gc, l2.tl⟩
          have lf := lf.drawn kn.fr l3
          refine ⟨st, g, c, p, cs, S2, rfl, rfl, l3, kn.t 0 rfl, by omega, fun ca C H4 S4 hC hok hv hlc f4 l4 t4 => ?_⟩
          walk_at "wp"
          exact ⟨S4, ca, C, rfl, lf.drawn f4 l4, by omega, hC, ⟨hok, hv, hlc⟩⟩
      · obtain ⟨S2, ca, C, rfl, lf, t2, hC, one⟩ := hm
        walk_at "wp"
        refine ⟨st, g, c, cs, S2, rfl, lf.l, by omega, fun va vs H4 S4 hva hvs f4 l4 t4 => ?_⟩
        have lf := lf.drawn f4 l4
        have hC := code_drawn f4 hC
        walk_at "wp"
        refine ⟨st, g, c, cs, S4, rfl, lf.l, by omega, fun vo vos H5 S5 hvo hvos f5 l5 t5 => ?_⟩
        have lf := lf.drawn f5 l5
        have hC := code_drawn f5 hC
        have hva := f5.tup _ _ hva
        walk_at "wp"
        refine ⟨st, g, c, cs, S5, rfl, lf.l, by omega, fun il ins H6 S6 _ hil hin f6 l6 t6 => ?_⟩
        have lf := lf.drawn f6 l6
        have hC := code_drawn f6 hC
        have hva := f6.tup _ _ hva
        have hvo := f6.tup _ _ hvo
        walk_at "wp"
        refine w_kw ?_
        walk_at "wp"
        show Sp2 (rWidened K) [.ref ca, .ref va] _ _ _
        walk_at "wp"
        refine w_widenedOk hC one.ok one.v1 hva hvs (one.tot hvs) fun wr H7 s7 hW => ?_
        have lf := lf.same s7
        have hC := code_same s7 hC
        have hva := s7 _ _ hva
        have hvo := s7 _ _ hvo
        have hil := s7 _ _ hil
        walk_at "wp"
        refine w_wwideOk hC one hva hvs fun wr2 H8 s8 hW2 => ?_
        have lf := lf.same s8
        have hC := code_same s8 hC
        have hW := code_same s8 hW
        have hva := s8 _ _ hva
        have hvo := s8 _ _ hvo
        have hil := s8 _ _ hil
        have wok := wide_ok one.ok hvs (one.tot hvs)
        refine w_neCode hW hW2 wok ?_
        walk_at "wp"
        refine w_rightOk hC hW one hvs hil (by have := hin.1; omega) fun H9 s9 => ?_
        have lf := lf.same s9
        have hC := code_same s9 hC
        have hW := code_same s9 hW
        have hva := s9 _ _ hva
        have hvo := s9 _ _ hvo
        have hsv : SqT K H9 va (vs.map V.int) := SqT.of hva
        have v1 := hvs.1
        have v5 := hvs.2.1
        walk_at "wp"
        rw [List.length_map]
        refine ⟨st, g, c, cs, S6, (vs.length : Int), rfl, rfl, lf.l, by omega, by omega, by omega, fun u H10 S10 u0 u1 f10 l10 t10 => ?_⟩
        have lf := lf.drawn f10 l10
        have hC := code_drawn f10 hC
        have hW := code_drawn f10 hW
        have hva := f10.tup _ _ hva
        have hvo := f10.tup _ _ hvo
        walk_at "wp"
        refine w_narrowOk hW one hvs u0 u1 fun nr H11 s11 hN => ?_
        have lf := lf.same s11
        have hC := code_same s11 hC
        have hW := code_same s11 hW
        have hva := s11 _ _ hva
        have hvo := s11 _ _ hvo
        walk_at "wp"
        refine w_neCode hN hC one.ok ?_
        walk_at "wp"
        refine w_narrowOk hW one hvs u0 u1 fun nr2 H12 s12 hN2 => ?_
        have lf := lf.same s12
        have hC := code_same s12 hC
        have hva := s12 _ _ hva
        have hvo := s12 _ _ hvo
        walk_at "wp"
        refine w_widenedOk hN2 one.ok one.v1 hvo hvos (one.tot hvos) fun wr3 H13 s13 hW3 => ?_
        have lf := lf.same s13
        have hC := code_same s13 hC
        have hva := s13 _ _ hva
        have hvo := s13 _ _ hvo
        walk_at "wp"
        refine w_wwideOk hC one hvo hvos fun wr4 H14 s14 hW4 => ?_
        have lf := lf.same s14
        have hC := code_same s14 hC
        have hW3 := code_same s14 hW3
        have hva := s14 _ _ hva
        refine w_neCode hW3 hW4 (wide_ok one.ok hvos (one.tot hvos)) ?_
        walk_at "wp"
        exact ⟨S10, _, _, _, _, _, _, _, rfl, lf, by push_cast; omega, .inr ⟨ca, va, C, vs, rfl, rfl, hC, one, hva, hvs⟩⟩
    · obtain ⟨S', a2, a3, a4, a5, a6, a7, a8, rfl, lf, ht, hk⟩ := hp
      rcases hk with hk | ⟨ca, va, C, vs, rfl, rfl, hC, one, hva, hvs⟩
      · omega
      walk_at "wp"
      refine ⟨st, g, c, ca, va, cs, vs, S', C, rfl, rfl, rfl, ⟨lf.l, hC, hva, fun p hp => ?_⟩, by omega, one, hvs, fun H2 => q H2⟩
      rw [List.mem_singleton.mp hp]
      exact LamX.TabS.nil lf.p
end
end Hue
set_option Elab.async false
set_option linter.all false
set_option maxRecDepth 100000
set_option maxHeartbeats 4000000
set_option autoImplicit false
namespace Hue
open PySem PySem.Spec PyProof.Rows L2
section
variable {P : Program} {w : World} {K : PySem.W.Frag} {h : Heap} {mg : Str → Option Value}
theorem excB_ok {x : Str} (hx : excB K x = true) (hs : PySem.W.subIn K (.ref (He.ga K x)) (.type "BaseException") = some true) : ExcC K (He.ga K x) := by
  unfold excB at hx
  simp only [Bool.and_eq_true, decide_eq_true_eq] at hx
  obtain ⟨a, b, d, e, f, g, i⟩ := hx
  exact ⟨a, b, hs, d, e, f, g, i⟩
theorem txt (X : K.In h) (G : h.Ns mainGlobals mg) (c : He.SaysX fa fn [] tf ex w h K) : Txt K mg := by
  have m := c.more
  unfold ex at m
  simp only [Bool.and_eq_true] at m
  obtain ⟨m1, m2, m3, m4, m5, m6, m7⟩ := m
  exact {
    b_isinstance := He.free_ok X G (c.t.d.fact 46 rfl)
    b_int := He.free_ok X G (c.t.d.fact 47 rfl)
    b_bool := He.free_ok X G (c.t.d.fact 48 rfl)
    b_tuple := He.free_ok X G (c.t.d.fact 49 rfl)
    b_str := He.free_ok X G (c.t.d.fact 50 rfl)
    b_len := He.free_ok X G (c.t.d.fact 51 rfl)
    b_enumerate := He.free_ok X G (c.t.d.fact 52 rfl)
    b_min := He.free_ok X G (c.t.d.fact 53 rfl)
    b_sum := He.free_ok X G (c.t.d.fact 54 rfl)
    b_range := He.free_ok X G (c.t.d.fact 55 rfl)
    b_abs := He.free_ok X G (c.t.d.fact 56 rfl)
    b_list := He.free_ok X G (c.t.d.fact 57 rfl)
    i_LEAST_SIZE := He.int_ok X G (c.t.d.fact 58 rfl)
    i_MOST_SIZE := He.int_ok X G (c.t.d.fact 59 rfl)
    i_MOST_PORT := He.int_ok X G (c.t.d.fact 60 rfl)
    i_MOST_HUES_codes := He.int_ok X G (c.t.d.fact 61 rfl)
    i_MOST_BANK := He.int_ok X G (c.t.d.fact 62 rfl)
    i_MOST_CELLS_codes := He.int_ok X G (c.t.d.fact 63 rfl)
    i_MANY_REGISTERS := He.int_ok X G (c.t.d.fact 64 rfl)
    i_MOST_HUES_laying := He.int_ok X G (c.t.d.fact 65 rfl)
    i_MOST_CELLS_compiling := He.int_ok X G (c.t.d.fact 66 rfl)
    gTWOS := He.glo_ok X G (c.t.d.fact 67 rfl)
    sTWOS := fun H => He.tupB_ok m1 H
    gBlock := He.glo_ok X G (c.t.d.fact 68 rfl)
    clBlock := He.cls_ok (c.t.d.fact 69 rfl)
    mkBlock := He.mkr_ok (c.t.d.fact 70 rfl)
    n_b_keys := He.noat_ok (c.t.d.fact 71 rfl)
    n_b_owns := He.noat_ok (c.t.d.fact 72 rfl)
    n_b_settle := He.noat_ok (c.t.d.fact 73 rfl)
    m_is_bare := He.meth_ok (c.t.d.fact 74 rfl)
    m_many := He.meth_ok (c.t.d.fact 75 rfl)
    g_HueError := He.glo_ok X G (c.t.d.fact 76 rfl)
    g_BadVotes := He.glo_ok X G (c.t.d.fact 77 rfl)
    g_BadCode := He.glo_ok X G (c.t.d.fact 78 rfl)
    g_BadHue := He.glo_ok X G (c.t.d.fact 79 rfl)
    g_TooLarge := He.glo_ok X G (c.t.d.fact 80 rfl)
    x_BadVotes := He.exc_ok (c.t.d.fact 81 rfl)
    e_BadVotes := He.exm_ok (c.t.d.fact 85 rfl)
    x_BadCode := He.exc_ok (c.t.d.fact 82 rfl)
    e_BadCode := He.exm_ok (c.t.d.fact 86 rfl)
    x_BadHue := He.exc_ok (c.t.d.fact 83 rfl)
    e_BadHue := He.exm_ok (c.t.d.fact 87 rfl)
    x_TooLarge := He.exc_ok (c.t.d.fact 84 rfl)
    e_TooLarge := He.exm_ok (c.t.d.fact 88 rfl)
    c_BadVotes := excB_ok m2 (He.exc_ok (c.t.d.fact 81 rfl)).2.2.1
    k_BadVotes := of_decide_eq_true m5
    c_BadCode := excB_ok m3 (He.exc_ok (c.t.d.fact 82 rfl)).2.2.1
    k_BadCode := of_decide_eq_true m6
    c_TooLarge := excB_ok m4 (He.exc_ok (c.t.d.fact 84 rfl)).2.2.1
    k_TooLarge := of_decide_eq_true m7 }
theorem D_is_whole (X : K.In h) (G : h.Ns mainGlobals mg) (c : He.SaysX fa fn [] tf ex w h K) : DefAt K mg "is_whole" s_is_whole := by
  obtain ⟨fd, F⟩ := c.t.d.def_ 0 (d := d_is_whole) rfl
  exact ⟨_, fd, F, He.glo_ok X G (c.t.d.fact 0 rfl)⟩
theorem D_is_from (X : K.In h) (G : h.Ns mainGlobals mg) (c : He.SaysX fa fn [] tf ex w h K) : DefAt K mg "is_from" s_is_from := by
  obtain ⟨fd, F⟩ := c.t.d.def_ 1 (d := d_is_from) rfl
  exact ⟨_, fd, F, He.glo_ok X G (c.t.d.fact 1 rfl)⟩
theorem D_is_votes (X : K.In h) (G : h.Ns mainGlobals mg) (c : He.SaysX fa fn [] tf ex w h K) : DefAt K mg "is_votes" s_is_votes := by
  obtain ⟨fd, F⟩ := c.t.d.def_ 2 (d := d_is_votes) rfl
  exact ⟨_, fd, F, He.glo_ok X G (c.t.d.fact 2 rfl)⟩
theorem D_are_registers (X : K.In h) (G : h.Ns mainGlobals mg) (c : He.SaysX fa fn [] tf ex w h K) : DefAt K mg "are_registers" s_are_registers := by
  obtain ⟨fd, F⟩ := c.t.d.def_ 3 (d := d_are_registers) rfl
  exact ⟨_, fd, F, He.glo_ok X G (c.t.d.fact 3 rfl)⟩
theorem D_instruction_fits (X : K.In h) (G : h.Ns mainGlobals mg) (c : He.SaysX fa fn [] tf ex w h K) : DefAt K mg "instruction_fits" s_instruction_fits := by
  obtain ⟨fd, F⟩ := c.t.d.def_ 4 (d := d_instruction_fits) rfl
  exact ⟨_, fd, F, He.glo_ok X G (c.t.d.fact 4 rfl)⟩
theorem D_settle_fits (X : K.In h) (G : h.Ns mainGlobals mg) (c : He.SaysX fa fn [] tf ex w h K) : DefAt K mg "settle_fits" s_settle_fits := by
  obtain ⟨fd, F⟩ := c.t.d.def_ 5 (d := d_settle_fits) rfl
  exact ⟨_, fd, F, He.glo_ok X G (c.t.d.fact 5 rfl)⟩
theorem D_cell_fits (X : K.In h) (G : h.Ns mainGlobals mg) (c : He.SaysX fa fn [] tf ex w h K) : DefAt K mg "cell_fits" s_cell_fits := by
  obtain ⟨fd, F⟩ := c.t.d.def_ 6 (d := d_cell_fits) rfl
  exact ⟨_, fd, F, He.glo_ok X G (c.t.d.fact 6 rfl)⟩
theorem D_is_code (X : K.In h) (G : h.Ns mainGlobals mg) (c : He.SaysX fa fn [] tf ex w h K) : DefAt K mg "is_code" s_is_code := by
  obtain ⟨fd, F⟩ := c.t.d.def_ 7 (d := d_is_code) rfl
  exact ⟨_, fd, F, He.glo_ok X G (c.t.d.fact 7 rfl)⟩
theorem D_Block_init (c : He.SaysX fa fn [] tf ex w h K) : MetAt K (He.ma K (He.ga K "Block") "__init__") "__init__" "Block.__init__" s_Block_init := by
  obtain ⟨fd, F⟩ := c.t.d.def_ 8 (d := d_Block_init) rfl
  exact ⟨fd, F⟩
theorem D_Block_is_bare (c : He.SaysX fa fn [] tf ex w h K) : MetAt K (He.ma K (He.ga K "Block") "is_bare") "is_bare" "Block.is_bare" s_Block_is_bare := by
  obtain ⟨fd, F⟩ := c.t.d.def_ 9 (d := d_Block_is_bare) rfl
  exact ⟨fd, F⟩
theorem D_Block_many (c : He.SaysX fa fn [] tf ex w h K) : MetAt K (He.ma K (He.ga K "Block") "many") "many" "Block.many" s_Block_many := by
  obtain ⟨fd, F⟩ := c.t.d.def_ 10 (d := d_Block_many) rfl
  exact ⟨fd, F⟩
theorem D_has_goal (X : K.In h) (G : h.Ns mainGlobals mg) (c : He.SaysX fa fn [] tf ex w h K) : DefAt K mg "has_goal" s_has_goal := by
  obtain ⟨fd, F⟩ := c.t.d.def_ 11 (d := d_has_goal) rfl
  exact ⟨_, fd, F, He.glo_ok X G (c.t.d.fact 8 rfl)⟩
theorem D_begin_at (X : K.In h) (G : h.Ns mainGlobals mg) (c : He.SaysX fa fn [] tf ex w h K) : DefAt K mg "begin_at" s_begin_at := by
  obtain ⟨fd, F⟩ := c.t.d.def_ 12 (d := d_begin_at) rfl
  exact ⟨_, fd, F, He.glo_ok X G (c.t.d.fact 9 rfl)⟩
theorem D_blocks_of (X : K.In h) (G : h.Ns mainGlobals mg) (c : He.SaysX fa fn [] tf ex w h K) : DefAt K mg "blocks_of" s_blocks_of := by
  obtain ⟨fd, F⟩ := c.t.d.def_ 13 (d := d_blocks_of) rfl
  exact ⟨_, fd, F, He.glo_ok X G (c.t.d.fact 10 rfl)⟩
theorem D_many_cells (X : K.In h) (G : h.Ns mainGlobals mg) (c : He.SaysX fa fn [] tf ex w h K) : DefAt K mg "many_cells" s_many_cells := by
  obtain ⟨fd, F⟩ := c.t.d.def_ 14 (d := d_many_cells) rfl
  exact ⟨_, fd, F, He.glo_ok X G (c.t.d.fact 11 rfl)⟩
theorem D_settle_led (X : K.In h) (G : h.Ns mainGlobals mg) (c : He.SaysX fa fn [] tf ex w h K) : DefAt K mg "settle_led" s_settle_led := by
  obtain ⟨fd, F⟩ := c.t.d.def_ 15 (d := d_settle_led) rfl
  exact ⟨_, fd, F, He.glo_ok X G (c.t.d.fact 12 rfl)⟩
theorem D_laid (X : K.In h) (G : h.Ns mainGlobals mg) (c : He.SaysX fa fn [] tf ex w h K) : DefAt K mg "laid" s_laid := by
  obtain ⟨fd, F⟩ := c.t.d.def_ 16 (d := d_laid) rfl
  exact ⟨_, fd, F, He.glo_ok X G (c.t.d.fact 13 rfl)⟩
theorem D_widened (X : K.In h) (G : h.Ns mainGlobals mg) (c : He.SaysX fa fn [] tf ex w h K) : DefAt K mg "widened" s_widened := by
  obtain ⟨fd, F⟩ := c.t.d.def_ 17 (d := d_widened) rfl
  exact ⟨_, fd, F, He.glo_ok X G (c.t.d.fact 14 rfl)⟩
theorem D_narrowed (X : K.In h) (G : h.Ns mainGlobals mg) (c : He.SaysX fa fn [] tf ex w h K) : DefAt K mg "narrowed" s_narrowed := by
  obtain ⟨fd, F⟩ := c.t.d.def_ 18 (d := d_narrowed) rfl
  exact ⟨_, fd, F, He.glo_ok X G (c.t.d.fact 15 rfl)⟩
theorem D_law_begun (X : K.In h) (G : h.Ns mainGlobals mg) (c : He.SaysX fa fn [] tf ex w h K) : DefAt K mg "_law_begun" s_law_begun := by
  obtain ⟨fd, F⟩ := c.t.d.def_ 19 (d := d_law_begun) rfl
  exact ⟨_, fd, F, He.glo_ok X G (c.t.d.fact 16 rfl)⟩
theorem D_law_mixed (X : K.In h) (G : h.Ns mainGlobals mg) (c : He.SaysX fa fn [] tf ex w h K) : DefAt K mg "_law_mixed" s_law_mixed := by
  obtain ⟨fd, F⟩ := c.t.d.def_ 20 (d := d_law_mixed) rfl
  exact ⟨_, fd, F, He.glo_ok X G (c.t.d.fact 17 rfl)⟩
theorem D_law_draw (X : K.In h) (G : h.Ns mainGlobals mg) (c : He.SaysX fa fn [] tf ex w h K) : DefAt K mg "_law_draw" s_law_draw := by
  obtain ⟨fd, F⟩ := c.t.d.def_ 21 (d := d_law_draw) rfl
  exact ⟨_, fd, F, He.glo_ok X G (c.t.d.fact 18 rfl)⟩
theorem D_law_pick (X : K.In h) (G : h.Ns mainGlobals mg) (c : He.SaysX fa fn [] tf ex w h K) : DefAt K mg "_law_pick" s_law_pick := by
  obtain ⟨fd, F⟩ := c.t.d.def_ 22 (d := d_law_pick) rfl
  exact ⟨_, fd, F, He.glo_ok X G (c.t.d.fact 19 rfl)⟩
theorem D_law_number (X : K.In h) (G : h.Ns mainGlobals mg) (c : He.SaysX fa fn [] tf ex w h K) : DefAt K mg "_law_number" s_law_number := by
  obtain ⟨fd, F⟩ := c.t.d.def_ 24 (d := d_law_number) rfl
  exact ⟨_, fd, F, He.glo_ok X G (c.t.d.fact 21 rfl)⟩
theorem D_law_size (X : K.In h) (G : h.Ns mainGlobals mg) (c : He.SaysX fa fn [] tf ex w h K) : DefAt K mg "_law_size" s_law_size := by
  obtain ⟨fd, F⟩ := c.t.d.def_ 25 (d := d_law_size) rfl
  exact ⟨_, fd, F, He.glo_ok X G (c.t.d.fact 22 rfl)⟩
theorem D_law_inputs (X : K.In h) (G : h.Ns mainGlobals mg) (c : He.SaysX fa fn [] tf ex w h K) : DefAt K mg "_law_inputs" s_law_inputs := by
  obtain ⟨fd, F⟩ := c.t.d.def_ 26 (d := d_law_inputs) rfl
  exact ⟨_, fd, F, He.glo_ok X G (c.t.d.fact 23 rfl)⟩
theorem D_law_votes (X : K.In h) (G : h.Ns mainGlobals mg) (c : He.SaysX fa fn [] tf ex w h K) : DefAt K mg "_law_votes" s_law_votes := by
  obtain ⟨fd, F⟩ := c.t.d.def_ 27 (d := d_law_votes) rfl
  exact ⟨_, fd, F, He.glo_ok X G (c.t.d.fact 24 rfl)⟩
theorem D_law_two_words (X : K.In h) (G : h.Ns mainGlobals mg) (c : He.SaysX fa fn [] tf ex w h K) : DefAt K mg "_law_two_words" s_law_two_words := by
  obtain ⟨fd, F⟩ := c.t.d.def_ 28 (d := d_law_two_words) rfl
  exact ⟨_, fd, F, He.glo_ok X G (c.t.d.fact 25 rfl)⟩
theorem D_law_plain_step (X : K.In h) (G : h.Ns mainGlobals mg) (c : He.SaysX fa fn [] tf ex w h K) : DefAt K mg "_law_plain_step" s_law_plain_step := by
  obtain ⟨fd, F⟩ := c.t.d.def_ 29 (d := d_law_plain_step) rfl
  exact ⟨_, fd, F, He.glo_ok X G (c.t.d.fact 26 rfl)⟩
theorem D_law_laid (X : K.In h) (G : h.Ns mainGlobals mg) (c : He.SaysX fa fn [] tf ex w h K) : DefAt K mg "_law_laid" s_law_laid := by
  obtain ⟨fd, F⟩ := c.t.d.def_ 30 (d := d_law_laid) rfl
  exact ⟨_, fd, F, He.glo_ok X G (c.t.d.fact 27 rfl)⟩
theorem D_law_code_blocks (X : K.In h) (G : h.Ns mainGlobals mg) (c : He.SaysX fa fn [] tf ex w h K) : DefAt K mg "_law_code_blocks" s_law_code_blocks := by
  obtain ⟨fd, F⟩ := c.t.d.def_ 31 (d := d_law_code_blocks) rfl
  exact ⟨_, fd, F, He.glo_ok X G (c.t.d.fact 28 rfl)⟩
theorem D_law_sure_code (X : K.In h) (G : h.Ns mainGlobals mg) (c : He.SaysX fa fn [] tf ex w h K) : DefAt K mg "_law_sure_code" s_law_sure_code := by
  obtain ⟨fd, F⟩ := c.t.d.def_ 32 (d := d_law_sure_code) rfl
  exact ⟨_, fd, F, He.glo_ok X G (c.t.d.fact 29 rfl)⟩
theorem D_law_weave_agreed (X : K.In h) (G : h.Ns mainGlobals mg) (c : He.SaysX fa fn [] tf ex w h K) : DefAt K mg "_law_weave_agreed" s_law_weave_agreed := by
  obtain ⟨fd, F⟩ := c.t.d.def_ 33 (d := d_law_weave_agreed) rfl
  exact ⟨_, fd, F, He.glo_ok X G (c.t.d.fact 30 rfl)⟩
theorem D_law_weave_marked (X : K.In h) (G : h.Ns mainGlobals mg) (c : He.SaysX fa fn [] tf ex w h K) : DefAt K mg "_law_weave_marked" s_law_weave_marked := by
  obtain ⟨fd, F⟩ := c.t.d.def_ 34 (d := d_law_weave_marked) rfl
  exact ⟨_, fd, F, He.glo_ok X G (c.t.d.fact 31 rfl)⟩
theorem D_law_weave_even (X : K.In h) (G : h.Ns mainGlobals mg) (c : He.SaysX fa fn [] tf ex w h K) : DefAt K mg "_law_weave_even" s_law_weave_even := by
  obtain ⟨fd, F⟩ := c.t.d.def_ 35 (d := d_law_weave_even) rfl
  exact ⟨_, fd, F, He.glo_ok X G (c.t.d.fact 32 rfl)⟩
theorem D_law_weave_settled (X : K.In h) (G : h.Ns mainGlobals mg) (c : He.SaysX fa fn [] tf ex w h K) : DefAt K mg "_law_weave_settled" s_law_weave_settled := by
  obtain ⟨fd, F⟩ := c.t.d.def_ 36 (d := d_law_weave_settled) rfl
  exact ⟨_, fd, F, He.glo_ok X G (c.t.d.fact 33 rfl)⟩
theorem D_law_weave_ran (X : K.In h) (G : h.Ns mainGlobals mg) (c : He.SaysX fa fn [] tf ex w h K) : DefAt K mg "_law_weave_ran" s_law_weave_ran := by
  obtain ⟨fd, F⟩ := c.t.d.def_ 37 (d := d_law_weave_ran) rfl
  exact ⟨_, fd, F, He.glo_ok X G (c.t.d.fact 34 rfl)⟩
theorem D_law_weave_blocks (X : K.In h) (G : h.Ns mainGlobals mg) (c : He.SaysX fa fn [] tf ex w h K) : DefAt K mg "_law_weave_blocks" s_law_weave_blocks := by
  obtain ⟨fd, F⟩ := c.t.d.def_ 38 (d := d_law_weave_blocks) rfl
  exact ⟨_, fd, F, He.glo_ok X G (c.t.d.fact 35 rfl)⟩
theorem D_law_weave_widened (X : K.In h) (G : h.Ns mainGlobals mg) (c : He.SaysX fa fn [] tf ex w h K) : DefAt K mg "_law_weave_widened" s_law_weave_widened := by
  obtain ⟨fd, F⟩ := c.t.d.def_ 39 (d := d_law_weave_widened) rfl
  exact ⟨_, fd, F, He.glo_ok X G (c.t.d.fact 36 rfl)⟩
theorem D_law_any_code (X : K.In h) (G : h.Ns mainGlobals mg) (c : He.SaysX fa fn [] tf ex w h K) : DefAt K mg "_law_any_code" s_law_any_code := by
  obtain ⟨fd, F⟩ := c.t.d.def_ 40 (d := d_law_any_code) rfl
  exact ⟨_, fd, F, He.glo_ok X G (c.t.d.fact 37 rfl)⟩
theorem D_law_worth_of (X : K.In h) (G : h.Ns mainGlobals mg) (c : He.SaysX fa fn [] tf ex w h K) : DefAt K mg "_law_worth_of" s_law_worth_of := by
  obtain ⟨fd, F⟩ := c.t.d.def_ 41 (d := d_law_worth_of) rfl
  exact ⟨_, fd, F, He.glo_ok X G (c.t.d.fact 38 rfl)⟩
theorem D_law_hue_done (X : K.In h) (G : h.Ns mainGlobals mg) (c : He.SaysX fa fn [] tf ex w h K) : DefAt K mg "_law_hue_done" s_law_hue_done := by
  obtain ⟨fd, F⟩ := c.t.d.def_ 42 (d := d_law_hue_done) rfl
  exact ⟨_, fd, F, He.glo_ok X G (c.t.d.fact 39 rfl)⟩
theorem D_law_fresh_hue (X : K.In h) (G : h.Ns mainGlobals mg) (c : He.SaysX fa fn [] tf ex w h K) : DefAt K mg "_law_fresh_hue" s_law_fresh_hue := by
  obtain ⟨fd, F⟩ := c.t.d.def_ 43 (d := d_law_fresh_hue) rfl
  exact ⟨_, fd, F, He.glo_ok X G (c.t.d.fact 40 rfl)⟩
theorem D_law_loose_code (X : K.In h) (G : h.Ns mainGlobals mg) (c : He.SaysX fa fn [] tf ex w h K) : DefAt K mg "_law_loose_code" s_law_loose_code := by
  obtain ⟨fd, F⟩ := c.t.d.def_ 44 (d := d_law_loose_code) rfl
  exact ⟨_, fd, F, He.glo_ok X G (c.t.d.fact 41 rfl)⟩
theorem D_law_runs_right (X : K.In h) (G : h.Ns mainGlobals mg) (c : He.SaysX fa fn [] tf ex w h K) : DefAt K mg "_law_runs_right" s_law_runs_right := by
  obtain ⟨fd, F⟩ := c.t.d.def_ 45 (d := d_law_runs_right) rfl
  exact ⟨_, fd, F, He.glo_ok X G (c.t.d.fact 42 rfl)⟩
theorem D_law_great_code (X : K.In h) (G : h.Ns mainGlobals mg) (c : He.SaysX fa fn [] tf ex w h K) : DefAt K mg "_law_great_code" s_law_great_code := by
  obtain ⟨fd, F⟩ := c.t.d.def_ 46 (d := d_law_great_code) rfl
  exact ⟨_, fd, F, He.glo_ok X G (c.t.d.fact 43 rfl)⟩
/-- what is known of the law at the head -/
theorem facts {w : World} {K : PySem.W.Frag} {h : Heap} {mg : Str → Option Value} {fa0 : Addr} (X : K.In h) (G : h.Ns mainGlobals mg) (hfa : mg ("law" : Str) = some (.ref fa0)) (c : He.SaysX fa fn [] tf ex w h K) :
    LamX.LawAtS PySem.Challenge.rw_hueward_k27_whole_any_code_of_one_hue_wi w K L2.CX0 11 63 "_law_script" mg fa0 h := by
  have T := txt X G c
  obtain ⟨fdL, FL⟩ := c.t.d.def_ 48 (d := d_law) rfl
  obtain ⟨fdR, FR⟩ := c.t.d.def_ 47 (d := d_law_refused) rfl
  obtain ⟨fdC, FC⟩ := c.t.d.def_ 23 (d := d_law_caught) rfl
  have gL := He.glo_ok X G (c.t.d.fact 45 rfl)
  have gR := He.glo_ok X G (c.t.d.fact 44 rfl)
  have gC := He.glo_ok X G (c.t.d.fact 20 rfl)
  have e := hfa.symm.trans gL
  cases e
  have hcode : fdR.code = .ref (He.cT K ("_law_refused", none)).1 := by
    obtain ⟨oc, od, dV, kV, doc, pm, an, cdv, ct, osl, rfl, lk, hcd, _, _⟩ := FR.ex
    obtain ⟨c1, rfl⟩ := He.codeIn_ref hcd
    exact congrArg Value.ref (He.codeOf_eq (p := ("_law_refused", none)) lk rfl).symm
  have b := FunD.bindsA (ps := [("_law_script" : Str)]) FL fun _ _ _ _ _ _ us hl => match us, hl with | [_], _ => rfl
  refine ⟨fdL, [He.cT K ("_law_refused", none)], Sp1 (rLaw K (He.cT K ("_law_refused", none)).2), ?_, ?_, ?_, fun s v => b s [v] rfl, fun H a ns hl _ hH hS => ⟨.ref a, rfl, a, ns, rfl, hS, hl, hH _ List.mem_cons_self, fun _ => rfl⟩, fun base _ _ hB => ?_⟩
  · intro p hp
    rw [List.mem_singleton.mp hp]
    exact c.empty ("_law_refused", none) List.mem_cons_self
  · intro p hp
    rw [List.mem_singleton.mp hp]
    exact c.out ("_law_refused", none) List.mem_cons_self
  · intro p hp
    rw [List.mem_singleton.mp hp]
    exact PySem.W.codeHd_of_K X (c.hd ("_law_refused", none) List.mem_cons_self)
  have C_is_whole := ok_is_whole (P := (PySem.Challenge.rw_hueward_k27_whole_any_code_of_one_hue_wi).prog) (w := w) (K := K) (mg := mg) (base := base) (D_is_whole X G c) T
  have C_is_from := ok_is_from (P := (PySem.Challenge.rw_hueward_k27_whole_any_code_of_one_hue_wi).prog) (w := w) (K := K) (mg := mg) (base := base) (D_is_from X G c) T C_is_whole
  have C_law_mixed := ok_law_mixed (P := (PySem.Challenge.rw_hueward_k27_whole_any_code_of_one_hue_wi).prog) (w := w) (K := K) (mg := mg) (base := base) (D_law_mixed X G c) T
  have C_law_draw := ok_law_draw (P := (PySem.Challenge.rw_hueward_k27_whole_any_code_of_one_hue_wi).prog) (w := w) (K := K) (mg := mg) (base := base) (D_law_draw X G c) T C_law_mixed
  have C_law_pick := ok_law_pick (P := (PySem.Challenge.rw_hueward_k27_whole_any_code_of_one_hue_wi).prog) (w := w) (K := K) (mg := mg) (base := base) (D_law_pick X G c) T C_law_draw
  have C_law_number := ok_law_number (P := (PySem.Challenge.rw_hueward_k27_whole_any_code_of_one_hue_wi).prog) (w := w) (K := K) (mg := mg) (base := base) (D_law_number X G c) T C_law_draw C_law_pick
  have C_law_size := ok_law_size (P := (PySem.Challenge.rw_hueward_k27_whole_any_code_of_one_hue_wi).prog) (w := w) (K := K) (mg := mg) (base := base) (D_law_size X G c) T C_law_pick
  have C_law_two_words := ok_law_two_words (P := (PySem.Challenge.rw_hueward_k27_whole_any_code_of_one_hue_wi).prog) (w := w) (K := K) (mg := mg) (base := base) (D_law_two_words X G c) 
  have C_law_begun := ok_law_begun (P := (PySem.Challenge.rw_hueward_k27_whole_any_code_of_one_hue_wi).prog) (w := w) (K := K) (mg := mg) (base := base) (D_law_begun X G c) T
  have C_law_inputs := ok_law_inputs (P := (PySem.Challenge.rw_hueward_k27_whole_any_code_of_one_hue_wi).prog) (w := w) (K := K) (mg := mg) (base := base) (D_law_inputs X G c) T C_law_pick
  have C_law_votes := ok_law_votes (P := (PySem.Challenge.rw_hueward_k27_whole_any_code_of_one_hue_wi).prog) (w := w) (K := K) (mg := mg) (base := base) (D_law_votes X G c) T C_law_draw C_law_pick
  have C_law_plain_step := ok_law_plain_step (P := (PySem.Challenge.rw_hueward_k27_whole_any_code_of_one_hue_wi).prog) (w := w) (K := K) (mg := mg) (base := base) (D_law_plain_step X G c) T C_law_draw C_law_pick C_law_number C_law_two_words
  have C_law_code_blocks := ok_law_code_blocks (P := (PySem.Challenge.rw_hueward_k27_whole_any_code_of_one_hue_wi).prog) (w := w) (K := K) (mg := mg) (base := base) (D_law_code_blocks X G c) T C_law_draw C_law_pick
  have C_law_laid := ok_law_laid (P := (PySem.Challenge.rw_hueward_k27_whole_any_code_of_one_hue_wi).prog) (w := w) (K := K) (mg := mg) (base := base) (D_law_laid X G c) T C_law_draw C_law_pick
  have C_law_loose_code := ok_law_loose_code (P := (PySem.Challenge.rw_hueward_k27_whole_any_code_of_one_hue_wi).prog) (w := w) (K := K) (mg := mg) (base := base) (D_law_loose_code X G c) T C_law_draw C_law_pick C_law_number C_law_size C_law_plain_step
  have C_law_sure_code := ok_law_sure_code (P := (PySem.Challenge.rw_hueward_k27_whole_any_code_of_one_hue_wi).prog) (w := w) (K := K) (mg := mg) (base := base) (D_law_sure_code X G c) T C_law_draw C_law_pick C_law_number C_law_plain_step C_law_laid C_law_code_blocks
  have C_law_any_code := ok_law_any_code (P := (PySem.Challenge.rw_hueward_k27_whole_any_code_of_one_hue_wi).prog) (w := w) (K := K) (mg := mg) (base := base) (D_law_any_code X G c) T C_law_draw C_law_size C_law_plain_step C_law_sure_code
  have C_is_votes := ok_is_votes (P := (PySem.Challenge.rw_hueward_k27_whole_any_code_of_one_hue_wi).prog) (w := w) (K := K) (mg := mg) (base := base) (D_is_votes X G c) T C_is_whole
  have C_are_registers := ok_are_registers (P := (PySem.Challenge.rw_hueward_k27_whole_any_code_of_one_hue_wi).prog) (w := w) (K := K) (mg := mg) (base := base) (D_are_registers X G c) T C_is_from
  have C_instruction_fits := ok_instruction_fits (P := (PySem.Challenge.rw_hueward_k27_whole_any_code_of_one_hue_wi).prog) (w := w) (K := K) (mg := mg) (base := base) (D_instruction_fits X G c) T C_is_from C_are_registers
  have C_settle_fits := ok_settle_fits (P := (PySem.Challenge.rw_hueward_k27_whole_any_code_of_one_hue_wi).prog) (w := w) (K := K) (mg := mg) (base := base) (D_settle_fits X G c) T C_is_from
  have C_cell_fits := ok_cell_fits (P := (PySem.Challenge.rw_hueward_k27_whole_any_code_of_one_hue_wi).prog) (w := w) (K := K) (mg := mg) (base := base) (D_cell_fits X G c) T C_is_from C_instruction_fits C_settle_fits
  have C_is_code := ok_is_code (P := (PySem.Challenge.rw_hueward_k27_whole_any_code_of_one_hue_wi).prog) (w := w) (K := K) (mg := mg) (base := base) (D_is_code X G c) T C_is_from C_is_votes C_cell_fits
  have M_Block_init := ok_Block_init (P := (PySem.Challenge.rw_hueward_k27_whole_any_code_of_one_hue_wi).prog) (w := w) (K := K) (mg := mg) (base := base) (D_Block_init c) T
  have M_Block_is_bare := ok_Block_is_bare (P := (PySem.Challenge.rw_hueward_k27_whole_any_code_of_one_hue_wi).prog) (w := w) (K := K) (mg := mg) (base := base) (D_Block_is_bare c) T
  have C_has_goal := ok_has_goal (P := (PySem.Challenge.rw_hueward_k27_whole_any_code_of_one_hue_wi).prog) (w := w) (K := K) (mg := mg) (base := base) (D_has_goal X G c) T
  have M_Block_many := ok_Block_many (P := (PySem.Challenge.rw_hueward_k27_whole_any_code_of_one_hue_wi).prog) (w := w) (K := K) (mg := mg) (base := base) (D_Block_many c) T
  have C_begin_at := ok_begin_at (P := (PySem.Challenge.rw_hueward_k27_whole_any_code_of_one_hue_wi).prog) (w := w) (K := K) (mg := mg) (base := base) (D_begin_at X G c) T M_Block_is_bare M_Block_init
  have C_blocks_of := ok_blocks_of (P := (PySem.Challenge.rw_hueward_k27_whole_any_code_of_one_hue_wi).prog) (w := w) (K := K) (mg := mg) (base := base) (D_blocks_of X G c) T C_has_goal M_Block_init C_begin_at
  have C_many_cells := ok_many_cells (P := (PySem.Challenge.rw_hueward_k27_whole_any_code_of_one_hue_wi).prog) (w := w) (K := K) (mg := mg) (base := base) (D_many_cells X G c) T M_Block_many
  have C_settle_led := ok_settle_led (P := (PySem.Challenge.rw_hueward_k27_whole_any_code_of_one_hue_wi).prog) (w := w) (K := K) (mg := mg) (base := base) (D_settle_led X G c) T C_has_goal
  have C_laid := ok_laid (P := (PySem.Challenge.rw_hueward_k27_whole_any_code_of_one_hue_wi).prog) (w := w) (K := K) (mg := mg) (base := base) (D_laid X G c) T M_Block_many C_settle_led
  have CW := okF_widened (P := (PySem.Challenge.rw_hueward_k27_whole_any_code_of_one_hue_wi).prog) (w := w) (K := K) (mg := mg) (base := base) (D_widened X G c) T C_is_votes C_is_code C_blocks_of C_many_cells C_laid
  have C_widened := CW.widened
  have C_narrowed := ok_narrowed (P := (PySem.Challenge.rw_hueward_k27_whole_any_code_of_one_hue_wi).prog) (w := w) (K := K) (mg := mg) (base := base) (D_narrowed X G c) T C_is_from C_is_code
  have C_law_worth_of := ok_law_worth_of (P := (PySem.Challenge.rw_hueward_k27_whole_any_code_of_one_hue_wi).prog) (w := w) (K := K) (mg := mg) (base := base) (D_law_worth_of X G c) T
  have C_law_fresh_hue := ok_law_fresh_hue (P := (PySem.Challenge.rw_hueward_k27_whole_any_code_of_one_hue_wi).prog) (w := w) (K := K) (mg := mg) (base := base) (D_law_fresh_hue X G c) T
  have C_law_hue_done := ok_law_hue_done (P := (PySem.Challenge.rw_hueward_k27_whole_any_code_of_one_hue_wi).prog) (w := w) (K := K) (mg := mg) (base := base) (D_law_hue_done X G c) T C_law_worth_of
  have C_law_weave_agreed := ok_law_weave_agreed (P := (PySem.Challenge.rw_hueward_k27_whole_any_code_of_one_hue_wi).prog) (w := w) (K := K) (mg := mg) (base := base) (D_law_weave_agreed X G c) T
  have C_law_weave_even := ok_law_weave_even (P := (PySem.Challenge.rw_hueward_k27_whole_any_code_of_one_hue_wi).prog) (w := w) (K := K) (mg := mg) (base := base) (D_law_weave_even X G c) T
  have C_law_weave_marked := ok_law_weave_marked (P := (PySem.Challenge.rw_hueward_k27_whole_any_code_of_one_hue_wi).prog) (w := w) (K := K) (mg := mg) (base := base) (D_law_weave_marked X G c) T
  have C_law_weave_settled := ok_law_weave_settled (P := (PySem.Challenge.rw_hueward_k27_whole_any_code_of_one_hue_wi).prog) (w := w) (K := K) (mg := mg) (base := base) (D_law_weave_settled X G c) T C_law_weave_agreed C_law_weave_even C_law_weave_marked
  have C_law_weave_ran := ok_law_weave_ran (P := (PySem.Challenge.rw_hueward_k27_whole_any_code_of_one_hue_wi).prog) (w := w) (K := K) (mg := mg) (base := base) (D_law_weave_ran X G c) T C_law_fresh_hue C_law_hue_done C_law_weave_settled
  have C_law_weave_blocks := ok_law_weave_blocks (P := (PySem.Challenge.rw_hueward_k27_whole_any_code_of_one_hue_wi).prog) (w := w) (K := K) (mg := mg) (base := base) (D_law_weave_blocks X G c) T
  have C_law_weave_widened := ok_law_weave_widened (P := (PySem.Challenge.rw_hueward_k27_whole_any_code_of_one_hue_wi).prog) (w := w) (K := K) (mg := mg) (base := base) (D_law_weave_widened X G c) T C_law_weave_blocks
  have C_law_runs_right := ok_law_runs_right (P := (PySem.Challenge.rw_hueward_k27_whole_any_code_of_one_hue_wi).prog) (w := w) (K := K) (mg := mg) (base := base) (D_law_runs_right X G c) T C_law_weave_ran
  have C_law_great_code := ok_law_great_code (P := (PySem.Challenge.rw_hueward_k27_whole_any_code_of_one_hue_wi).prog) (w := w) (K := K) (mg := mg) (base := base) (D_law_great_code X G c) T C_law_draw
  have C_law_refused := ok_law_refused (P := (PySem.Challenge.rw_hueward_k27_whole_any_code_of_one_hue_wi).prog) (w := w) (K := K) (mg := mg) (base := base) FR gR hcode (hB _ List.mem_cons_self) T FC gC C_law_pick C_law_draw C_widened C_law_great_code
  exact ok_law (P := (PySem.Challenge.rw_hueward_k27_whole_any_code_of_one_hue_wi).prog) (w := w) (K := K) (mg := mg) (base := base) FL T CW C_narrowed C_law_begun C_law_draw C_law_loose_code C_law_any_code C_law_votes C_law_inputs C_law_weave_widened C_law_runs_right C_law_refused
end
end Hue
set_option maxHeartbeats 0
theorem PySem.Challenge.cw_hueward_k27_whole_any_code_of_one_hue_wi_holds : PySem.Challenge.rw_hueward_k27_whole_any_code_of_one_hue_wi.Holds := by
  exact Hue.holds_of fun _ _ _ _ _ X G hfa c => Hue.facts X G hfa c
