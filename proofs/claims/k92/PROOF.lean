import PyProof.Rows.All
import Wide.All
import OpenK.AllK
import Wide.FinOn
import KE.KStateDown
import Lean
import HandS.ForMost
import HandS.Exc
import HandS.TryOnly
import HandS.ExcOwn
import HandS.WordsExc
import HandS.Defaults
import HandS.IsInst
import HandS.Zip
import HandS.ClsMeth
import HandS.Star
import HandS.WideBits
import HandS.More
import HandS.Conv
import KE.GoesEnumKw
import HandS.Head0
import HandS.Head1
import HandS.Head2
import HandS.HeadEnd
import HandS.HeadHook1
import HandS.HeadHook2
import PySem.Challenge.RW_frameback_k92_whole_all_as_at_the_call
set_option Elab.async false
set_option linter.all false
set_option maxRecDepth 100000
set_option maxHeartbeats 4000000
namespace Fb
open PySem PySem.Spec PyProof.Rows L2
open He (ga ma)
/-! ### the text, by places -/
def top (i : Nat) : Stmt := PySem.Challenge.pw_frameback_k92_whole_all_as_at_the_call.main.body.getD i (.Pass ⟨0, 0, 0, 0⟩)

abbrev s_lying : Stmt := (top 12)
abbrev s_one_up : Stmt := (top 13)
abbrev s_callers : Stmt := (top 14)
abbrev s_within : Stmt := (top 20)
abbrev s_with_value : Stmt := (top 21)
abbrev s_without : Stmt := (top 22)
abbrev s_followed : Stmt := (top 23)
abbrev s_bit_of : Stmt := (top 24)
abbrev s_is_set : Stmt := (top 48)
abbrev s_is_entry : Stmt := (top 49)
abbrev s_may_go_back : Stmt := (top 50)
abbrev s_own_complaint : Stmt := (top 51)
abbrev s_unlike : Stmt := (top 52)
abbrev s_onward : Stmt := (top 53)
abbrev s_landed : Stmt := (top 54)
abbrev s_checked : Stmt := (top 55)
abbrev s_entry_behind : Stmt := (top 57)
abbrev s_entry_of_both : Stmt := (top 58)
abbrev s_ways_from : Stmt := (top 59)
abbrev s_guess : Stmt := (top 60)
abbrev s_law_cell_at : Stmt := (top 62)
abbrev s_law_value : Stmt := (top 63)
abbrev s_law_row : Stmt := (top 64)
abbrev s_law_body : Stmt := (top 65)
abbrev s_law_function : Stmt := (top 66)
abbrev s_law_code : Stmt := (top 67)
abbrev s_law_any_row : Stmt := (top 68)
abbrev s_law_any_code : Stmt := (top 69)
abbrev s_law_table : Stmt := (top 70)
abbrev s_law_landing : Stmt := (top 71)
abbrev s_law_as_then : Stmt := (top 72)
abbrev s_law_landed : Stmt := (top 73)
abbrev s_law_back : Stmt := (top 74)
abbrev s_law : Stmt := (top 75)
abbrev s_Set_init : Stmt := (inClass (top 27) 0)
abbrev s_Set_goes : Stmt := (inClass (top 25) 4)
abbrev s_Set_height : Stmt := (inClass (top 25) 5)
abbrev s_Set_keeps : Stmt := (inClass (top 26) 2)
abbrev s_Set_runs : Stmt := (inClass (top 26) 3)
abbrev s_Set_value : Stmt := (inClass (top 27) 3)
abbrev s_Copy_init : Stmt := (inClass (top 28) 0)
abbrev s_Copy_goes : Stmt := (inClass (top 25) 4)
abbrev s_Copy_height : Stmt := (inClass (top 25) 5)
abbrev s_Copy_keeps : Stmt := (inClass (top 28) 4)
abbrev s_Copy_runs : Stmt := (inClass (top 26) 3)
abbrev s_Copy_value : Stmt := (inClass (top 28) 3)
abbrev s_Add_init : Stmt := (inClass (top 29) 0)
abbrev s_Add_goes : Stmt := (inClass (top 25) 4)
abbrev s_Add_height : Stmt := (inClass (top 25) 5)
abbrev s_Add_keeps : Stmt := (inClass (top 26) 2)
abbrev s_Add_runs : Stmt := (inClass (top 26) 3)
abbrev s_Add_value : Stmt := (inClass (top 29) 3)
abbrev s_Add_comes_to : Stmt := (inClass (top 30) 1)
abbrev s_Grow_init : Stmt := (inClass (top 31) 0)
abbrev s_Grow_goes : Stmt := (inClass (top 25) 4)
abbrev s_Grow_height : Stmt := (inClass (top 31) 3)
abbrev s_Grow_keeps : Stmt := (inClass (top 25) 6)
abbrev s_Grow_runs : Stmt := (inClass (top 31) 4)
abbrev s_Shrink_init : Stmt := (inClass (top 32) 0)
abbrev s_Shrink_goes : Stmt := (inClass (top 25) 4)
abbrev s_Shrink_height : Stmt := (inClass (top 32) 3)
abbrev s_Shrink_keeps : Stmt := (inClass (top 32) 4)
abbrev s_Shrink_runs : Stmt := (inClass (top 32) 5)
abbrev s_Put_init : Stmt := (inClass (top 33) 0)
abbrev s_Put_goes : Stmt := (inClass (top 25) 4)
abbrev s_Put_height : Stmt := (inClass (top 33) 2)
abbrev s_Put_keeps : Stmt := (inClass (top 34) 1)
abbrev s_Put_runs : Stmt := (inClass (top 34) 2)
abbrev s_Get_init : Stmt := (inClass (top 33) 0)
abbrev s_Get_goes : Stmt := (inClass (top 25) 4)
abbrev s_Get_height : Stmt := (inClass (top 33) 2)
abbrev s_Get_keeps : Stmt := (inClass (top 35) 1)
abbrev s_Get_runs : Stmt := (inClass (top 35) 2)
abbrev s_Jump_init : Stmt := (inClass (top 39) 0)
abbrev s_Jump_goes : Stmt := (inClass (top 39) 4)
abbrev s_Jump_height : Stmt := (inClass (top 25) 5)
abbrev s_Jump_keeps : Stmt := (inClass (top 25) 6)
abbrev s_Jump_runs : Stmt := (inClass (top 39) 5)
abbrev s_Branch_init : Stmt := (inClass (top 40) 0)
abbrev s_Branch_goes : Stmt := (inClass (top 40) 4)
abbrev s_Branch_height : Stmt := (inClass (top 25) 5)
abbrev s_Branch_keeps : Stmt := (inClass (top 25) 6)
abbrev s_Branch_runs : Stmt := (inClass (top 40) 5)
abbrev s_Call_init : Stmt := (inClass (top 41) 0)
abbrev s_Call_goes : Stmt := (inClass (top 25) 4)
abbrev s_Call_height : Stmt := (inClass (top 25) 5)
abbrev s_Call_keeps : Stmt := (inClass (top 41) 4)
abbrev s_Call_runs : Stmt := (inClass (top 41) 5)
abbrev s_Back_init : Stmt := (inClass (top 42) 0)
abbrev s_Back_goes : Stmt := (inClass (top 42) 3)
abbrev s_Back_height : Stmt := (inClass (top 25) 5)
abbrev s_Back_keeps : Stmt := (inClass (top 25) 6)
abbrev s_Back_runs : Stmt := (inClass (top 42) 4)
abbrev s_Drop_init : Stmt := (inClass (top 43) 0)
abbrev s_Drop_goes : Stmt := (inClass (top 43) 3)
abbrev s_Drop_height : Stmt := (inClass (top 25) 5)
abbrev s_Drop_keeps : Stmt := (inClass (top 25) 6)
abbrev s_Drop_runs : Stmt := (inClass (top 43) 4)
abbrev s_Fill_init : Stmt := (inClass (top 26) 0)
abbrev s_Table_init : Stmt := (inClass (top 9) 0)
abbrev s_Machine_init : Stmt := (inClass (top 45) 0)
abbrev s_Machine_at : Stmt := (inClass (top 45) 1)
abbrev s_Machine_boxes : Stmt := (inClass (top 45) 2)
abbrev s_Machine_pile : Stmt := (inClass (top 45) 3)
abbrev s_Machine_word : Stmt := (inClass (top 45) 4)
abbrev s_Machine_fault : Stmt := (inClass (top 45) 6)
abbrev s_Machine_step : Stmt := (inClass (top 45) 7)
abbrev s_Machine_go_on : Stmt := (inClass (top 45) 8)
abbrev s_Machine_drop : Stmt := (inClass (top 45) 9)
abbrev s_Machine_land : Stmt := (inClass (top 45) 10)
def fn1 : List He.DefD := [
  ⟨("lying", none), "lying", "lying", defArgs s_lying, defBody s_lying, defScope s_lying, [], []⟩,
  ⟨("one_up", none), "one_up", "one_up", defArgs s_one_up, defBody s_one_up, defScope s_one_up, [], []⟩,
  ⟨("callers", none), "callers", "callers", defArgs s_callers, defBody s_callers, defScope s_callers, [], []⟩,
  ⟨("within", none), "within", "within", defArgs s_within, defBody s_within, defScope s_within, [], []⟩,
  ⟨("with_value", none), "with_value", "with_value", defArgs s_with_value, defBody s_with_value, defScope s_with_value, [], []⟩,
  ⟨("without", none), "without", "without", defArgs s_without, defBody s_without, defScope s_without, [], []⟩,
  ⟨("followed", none), "followed", "followed", defArgs s_followed, defBody s_followed, defScope s_followed, [], []⟩,
  ⟨("bit_of", none), "bit_of", "bit_of", defArgs s_bit_of, defBody s_bit_of, defScope s_bit_of, [], []⟩,
  ⟨("is_set", none), "is_set", "is_set", defArgs s_is_set, defBody s_is_set, defScope s_is_set, [], []⟩,
  ⟨("is_entry", none), "is_entry", "is_entry", defArgs s_is_entry, defBody s_is_entry, defScope s_is_entry, [], []⟩,
  ⟨("may_go_back", none), "may_go_back", "may_go_back", defArgs s_may_go_back, defBody s_may_go_back, defScope s_may_go_back, [], []⟩,
  ⟨("own_complaint", none), "own_complaint", "own_complaint", defArgs s_own_complaint, defBody s_own_complaint, defScope s_own_complaint, [], []⟩,
  ⟨("unlike", none), "unlike", "unlike", defArgs s_unlike, defBody s_unlike, defScope s_unlike, [], []⟩,
  ⟨("onward", none), "onward", "onward", defArgs s_onward, defBody s_onward, defScope s_onward, [], []⟩,
  ⟨("landed", none), "landed", "landed", defArgs s_landed, defBody s_landed, defScope s_landed, [], []⟩,
  ⟨("checked", none), "checked", "checked", defArgs s_checked, defBody s_checked, defScope s_checked, [], []⟩,
  ⟨("entry_behind", none), "entry_behind", "entry_behind", defArgs s_entry_behind, defBody s_entry_behind, defScope s_entry_behind, [], []⟩,
  ⟨("entry_of_both", none), "entry_of_both", "entry_of_both", defArgs s_entry_of_both, defBody s_entry_of_both, defScope s_entry_of_both, [], []⟩,
  ⟨("ways_from", none), "ways_from", "ways_from", defArgs s_ways_from, defBody s_ways_from, defScope s_ways_from, [], []⟩,
  ⟨("guess", none), "guess", "guess", defArgs s_guess, defBody s_guess, defScope s_guess, [.non], []⟩,
  ⟨("_law_cell_at", none), "_law_cell_at", "_law_cell_at", defArgs s_law_cell_at, defBody s_law_cell_at, defScope s_law_cell_at, [], []⟩,
  ⟨("_law_value", none), "_law_value", "_law_value", defArgs s_law_value, defBody s_law_value, defScope s_law_value, [], []⟩,
  ⟨("_law_row", none), "_law_row", "_law_row", defArgs s_law_row, defBody s_law_row, defScope s_law_row, [], []⟩,
  ⟨("_law_body", none), "_law_body", "_law_body", defArgs s_law_body, defBody s_law_body, defScope s_law_body, [], []⟩,
  ⟨("_law_function", none), "_law_function", "_law_function", defArgs s_law_function, defBody s_law_function, defScope s_law_function, [], []⟩,
  ⟨("_law_code", none), "_law_code", "_law_code", defArgs s_law_code, defBody s_law_code, defScope s_law_code, [], []⟩,
  ⟨("_law_any_row", none), "_law_any_row", "_law_any_row", defArgs s_law_any_row, defBody s_law_any_row, defScope s_law_any_row, [], []⟩,
  ⟨("_law_any_code", none), "_law_any_code", "_law_any_code", defArgs s_law_any_code, defBody s_law_any_code, defScope s_law_any_code, [], []⟩,
  ⟨("_law_table", none), "_law_table", "_law_table", defArgs s_law_table, defBody s_law_table, defScope s_law_table, [], []⟩,
  ⟨("_law_landing", none), "_law_landing", "_law_landing", defArgs s_law_landing, defBody s_law_landing, defScope s_law_landing, [], []⟩,
  ⟨("_law_as_then", none), "_law_as_then", "_law_as_then", defArgs s_law_as_then, defBody s_law_as_then, defScope s_law_as_then, [], []⟩,
  ⟨("_law_landed", none), "_law_landed", "_law_landed", defArgs s_law_landed, defBody s_law_landed, defScope s_law_landed, [], []⟩,
  ⟨("_law_back", none), "_law_back", "_law_back", defArgs s_law_back, defBody s_law_back, defScope s_law_back, [], []⟩,
  ⟨("law", none), "law", "law", defArgs s_law, defBody s_law, defScope s_law, [], []⟩,
  ⟨("Set", some "__init__"), "__init__", "Set.__init__", defArgs s_Set_init, defBody s_Set_init, defScope s_Set_init, [], []⟩,
  ⟨("Set", some "goes"), "goes", "Row.goes", defArgs s_Set_goes, defBody s_Set_goes, defScope s_Set_goes, [], []⟩,
  ⟨("Set", some "height"), "height", "Row.height", defArgs s_Set_height, defBody s_Set_height, defScope s_Set_height, [], []⟩,
  ⟨("Set", some "keeps"), "keeps", "Fill.keeps", defArgs s_Set_keeps, defBody s_Set_keeps, defScope s_Set_keeps, [], []⟩,
  ⟨("Set", some "runs"), "runs", "Fill.runs", defArgs s_Set_runs, defBody s_Set_runs, defScope s_Set_runs, [], []⟩,
  ⟨("Set", some "value"), "value", "Set.value", defArgs s_Set_value, defBody s_Set_value, defScope s_Set_value, [], []⟩,
  ⟨("Copy", some "__init__"), "__init__", "Copy.__init__", defArgs s_Copy_init, defBody s_Copy_init, defScope s_Copy_init, [], []⟩,
  ⟨("Copy", some "goes"), "goes", "Row.goes", defArgs s_Copy_goes, defBody s_Copy_goes, defScope s_Copy_goes, [], []⟩,
  ⟨("Copy", some "height"), "height", "Row.height", defArgs s_Copy_height, defBody s_Copy_height, defScope s_Copy_height, [], []⟩,
  ⟨("Copy", some "keeps"), "keeps", "Copy.keeps", defArgs s_Copy_keeps, defBody s_Copy_keeps, defScope s_Copy_keeps, [], []⟩,
  ⟨("Copy", some "runs"), "runs", "Fill.runs", defArgs s_Copy_runs, defBody s_Copy_runs, defScope s_Copy_runs, [], []⟩,
  ⟨("Copy", some "value"), "value", "Copy.value", defArgs s_Copy_value, defBody s_Copy_value, defScope s_Copy_value, [], []⟩,
  ⟨("Add", some "__init__"), "__init__", "Reckon.__init__", defArgs s_Add_init, defBody s_Add_init, defScope s_Add_init, [], []⟩,
  ⟨("Add", some "goes"), "goes", "Row.goes", defArgs s_Add_goes, defBody s_Add_goes, defScope s_Add_goes, [], []⟩,
  ⟨("Add", some "height"), "height", "Row.height", defArgs s_Add_height, defBody s_Add_height, defScope s_Add_height, [], []⟩,
  ⟨("Add", some "keeps"), "keeps", "Fill.keeps", defArgs s_Add_keeps, defBody s_Add_keeps, defScope s_Add_keeps, [], []⟩,
  ⟨("Add", some "runs"), "runs", "Fill.runs", defArgs s_Add_runs, defBody s_Add_runs, defScope s_Add_runs, [], []⟩,
  ⟨("Add", some "value"), "value", "Reckon.value", defArgs s_Add_value, defBody s_Add_value, defScope s_Add_value, [], []⟩,
  ⟨("Add", some "comes_to"), "comes_to", "Add.comes_to", defArgs s_Add_comes_to, defBody s_Add_comes_to, defScope s_Add_comes_to, [], []⟩,
  ⟨("Grow", some "__init__"), "__init__", "Grow.__init__", defArgs s_Grow_init, defBody s_Grow_init, defScope s_Grow_init, [], []⟩,
  ⟨("Grow", some "goes"), "goes", "Row.goes", defArgs s_Grow_goes, defBody s_Grow_goes, defScope s_Grow_goes, [], []⟩,
  ⟨("Grow", some "height"), "height", "Grow.height", defArgs s_Grow_height, defBody s_Grow_height, defScope s_Grow_height, [], []⟩,
  ⟨("Grow", some "keeps"), "keeps", "Row.keeps", defArgs s_Grow_keeps, defBody s_Grow_keeps, defScope s_Grow_keeps, [], []⟩,
  ⟨("Grow", some "runs"), "runs", "Grow.runs", defArgs s_Grow_runs, defBody s_Grow_runs, defScope s_Grow_runs, [], []⟩,
  ⟨("Shrink", some "__init__"), "__init__", "Shrink.__init__", defArgs s_Shrink_init, defBody s_Shrink_init, defScope s_Shrink_init, [], []⟩,
  ⟨("Shrink", some "goes"), "goes", "Row.goes", defArgs s_Shrink_goes, defBody s_Shrink_goes, defScope s_Shrink_goes, [], []⟩,
  ⟨("Shrink", some "height"), "height", "Shrink.height", defArgs s_Shrink_height, defBody s_Shrink_height, defScope s_Shrink_height, [], []⟩,
  ⟨("Shrink", some "keeps"), "keeps", "Shrink.keeps", defArgs s_Shrink_keeps, defBody s_Shrink_keeps, defScope s_Shrink_keeps, [], []⟩,
  ⟨("Shrink", some "runs"), "runs", "Shrink.runs", defArgs s_Shrink_runs, defBody s_Shrink_runs, defScope s_Shrink_runs, [], []⟩,
  ⟨("Put", some "__init__"), "__init__", "Touch.__init__", defArgs s_Put_init, defBody s_Put_init, defScope s_Put_init, [], []⟩,
  ⟨("Put", some "goes"), "goes", "Row.goes", defArgs s_Put_goes, defBody s_Put_goes, defScope s_Put_goes, [], []⟩,
  ⟨("Put", some "height"), "height", "Touch.height", defArgs s_Put_height, defBody s_Put_height, defScope s_Put_height, [], []⟩,
  ⟨("Put", some "keeps"), "keeps", "Put.keeps", defArgs s_Put_keeps, defBody s_Put_keeps, defScope s_Put_keeps, [], []⟩,
  ⟨("Put", some "runs"), "runs", "Put.runs", defArgs s_Put_runs, defBody s_Put_runs, defScope s_Put_runs, [], []⟩,
  ⟨("Get", some "__init__"), "__init__", "Touch.__init__", defArgs s_Get_init, defBody s_Get_init, defScope s_Get_init, [], []⟩,
  ⟨("Get", some "goes"), "goes", "Row.goes", defArgs s_Get_goes, defBody s_Get_goes, defScope s_Get_goes, [], []⟩,
  ⟨("Get", some "height"), "height", "Touch.height", defArgs s_Get_height, defBody s_Get_height, defScope s_Get_height, [], []⟩,
  ⟨("Get", some "keeps"), "keeps", "Get.keeps", defArgs s_Get_keeps, defBody s_Get_keeps, defScope s_Get_keeps, [], []⟩,
  ⟨("Get", some "runs"), "runs", "Get.runs", defArgs s_Get_runs, defBody s_Get_runs, defScope s_Get_runs, [], []⟩,
  ⟨("Jump", some "__init__"), "__init__", "Jump.__init__", defArgs s_Jump_init, defBody s_Jump_init, defScope s_Jump_init, [], []⟩,
  ⟨("Jump", some "goes"), "goes", "Jump.goes", defArgs s_Jump_goes, defBody s_Jump_goes, defScope s_Jump_goes, [], []⟩,
  ⟨("Jump", some "height"), "height", "Row.height", defArgs s_Jump_height, defBody s_Jump_height, defScope s_Jump_height, [], []⟩,
  ⟨("Jump", some "keeps"), "keeps", "Row.keeps", defArgs s_Jump_keeps, defBody s_Jump_keeps, defScope s_Jump_keeps, [], []⟩,
  ⟨("Jump", some "runs"), "runs", "Jump.runs", defArgs s_Jump_runs, defBody s_Jump_runs, defScope s_Jump_runs, [], []⟩,
  ⟨("Branch", some "__init__"), "__init__", "Branch.__init__", defArgs s_Branch_init, defBody s_Branch_init, defScope s_Branch_init, [], []⟩,
  ⟨("Branch", some "goes"), "goes", "Branch.goes", defArgs s_Branch_goes, defBody s_Branch_goes, defScope s_Branch_goes, [], []⟩,
  ⟨("Branch", some "height"), "height", "Row.height", defArgs s_Branch_height, defBody s_Branch_height, defScope s_Branch_height, [], []⟩,
  ⟨("Branch", some "keeps"), "keeps", "Row.keeps", defArgs s_Branch_keeps, defBody s_Branch_keeps, defScope s_Branch_keeps, [], []⟩,
  ⟨("Branch", some "runs"), "runs", "Branch.runs", defArgs s_Branch_runs, defBody s_Branch_runs, defScope s_Branch_runs, [], []⟩,
  ⟨("Call", some "__init__"), "__init__", "Call.__init__", defArgs s_Call_init, defBody s_Call_init, defScope s_Call_init, [], []⟩,
  ⟨("Call", some "goes"), "goes", "Row.goes", defArgs s_Call_goes, defBody s_Call_goes, defScope s_Call_goes, [], []⟩,
  ⟨("Call", some "height"), "height", "Row.height", defArgs s_Call_height, defBody s_Call_height, defScope s_Call_height, [], []⟩,
  ⟨("Call", some "keeps"), "keeps", "Call.keeps", defArgs s_Call_keeps, defBody s_Call_keeps, defScope s_Call_keeps, [], []⟩,
  ⟨("Call", some "runs"), "runs", "Call.runs", defArgs s_Call_runs, defBody s_Call_runs, defScope s_Call_runs, [], []⟩,
  ⟨("Back", some "__init__"), "__init__", "Back.__init__", defArgs s_Back_init, defBody s_Back_init, defScope s_Back_init, [], []⟩,
  ⟨("Back", some "goes"), "goes", "Back.goes", defArgs s_Back_goes, defBody s_Back_goes, defScope s_Back_goes, [], []⟩,
  ⟨("Back", some "height"), "height", "Row.height", defArgs s_Back_height, defBody s_Back_height, defScope s_Back_height, [], []⟩,
  ⟨("Back", some "keeps"), "keeps", "Row.keeps", defArgs s_Back_keeps, defBody s_Back_keeps, defScope s_Back_keeps, [], []⟩,
  ⟨("Back", some "runs"), "runs", "Back.runs", defArgs s_Back_runs, defBody s_Back_runs, defScope s_Back_runs, [], []⟩,
  ⟨("Drop", some "__init__"), "__init__", "Drop.__init__", defArgs s_Drop_init, defBody s_Drop_init, defScope s_Drop_init, [], []⟩,
  ⟨("Drop", some "goes"), "goes", "Drop.goes", defArgs s_Drop_goes, defBody s_Drop_goes, defScope s_Drop_goes, [], []⟩,
  ⟨("Drop", some "height"), "height", "Row.height", defArgs s_Drop_height, defBody s_Drop_height, defScope s_Drop_height, [], []⟩,
  ⟨("Drop", some "keeps"), "keeps", "Row.keeps", defArgs s_Drop_keeps, defBody s_Drop_keeps, defScope s_Drop_keeps, [], []⟩,
  ⟨("Drop", some "runs"), "runs", "Drop.runs", defArgs s_Drop_runs, defBody s_Drop_runs, defScope s_Drop_runs, [], []⟩,
  ⟨("Fill", some "__init__"), "__init__", "Fill.__init__", defArgs s_Fill_init, defBody s_Fill_init, defScope s_Fill_init, [], []⟩,
  ⟨("Table", some "__init__"), "__init__", "Table.__init__", defArgs s_Table_init, defBody s_Table_init, defScope s_Table_init, [.non], []⟩,
  ⟨("Machine", some "__init__"), "__init__", "Machine.__init__", defArgs s_Machine_init, defBody s_Machine_init, defScope s_Machine_init, [.int 0], []⟩,
  ⟨("Machine", some "at"), "at", "Machine.at", defArgs s_Machine_at, defBody s_Machine_at, defScope s_Machine_at, [], []⟩,
  ⟨("Machine", some "boxes"), "boxes", "Machine.boxes", defArgs s_Machine_boxes, defBody s_Machine_boxes, defScope s_Machine_boxes, [], []⟩,
  ⟨("Machine", some "pile"), "pile", "Machine.pile", defArgs s_Machine_pile, defBody s_Machine_pile, defScope s_Machine_pile, [], []⟩,
  ⟨("Machine", some "word"), "word", "Machine.word", defArgs s_Machine_word, defBody s_Machine_word, defScope s_Machine_word, [], []⟩,
  ⟨("Machine", some "fault"), "fault", "Machine.fault", defArgs s_Machine_fault, defBody s_Machine_fault, defScope s_Machine_fault, [], []⟩,
  ⟨("Machine", some "step"), "step", "Machine.step", defArgs s_Machine_step, defBody s_Machine_step, defScope s_Machine_step, [], []⟩,
  ⟨("Machine", some "go_on"), "go_on", "Machine.go_on", defArgs s_Machine_go_on, defBody s_Machine_go_on, defScope s_Machine_go_on, [], []⟩,
  ⟨("Machine", some "drop"), "drop", "Machine.drop", defArgs s_Machine_drop, defBody s_Machine_drop, defScope s_Machine_drop, [], []⟩,
  ⟨("Machine", some "land"), "land", "Machine.land", defArgs s_Machine_land, defBody s_Machine_land, defScope s_Machine_land, [], []⟩]
def fa1 : List He.Fa := [
  .free "len",
  .free "range",
  .free "list",
  .free "tuple",
  .free "dict",
  .free "isinstance",
  .free "enumerate",
  .free "zip",
  .free "all",
  .free "sorted",
  .free "int",
  .free "max",
  .int "BOXES_tables" 8,
  .int "MOST" 5000,
  .int "WORD" 4294967296,
  .int "BOXES_rows" 8,
  .int "MOST_CELLS" 4000,
  .int "MOST_ROWS" 2000,
  .int "LINK" 7,
  .int "KEPT" 112,
  .int "DEEPEST" 4000,
  .glo "lying",
  .glo "one_up",
  .glo "callers",
  .glo "within",
  .glo "with_value",
  .glo "without",
  .glo "followed",
  .glo "bit_of",
  .glo "is_set",
  .glo "is_entry",
  .glo "may_go_back",
  .glo "own_complaint",
  .glo "unlike",
  .glo "onward",
  .glo "landed",
  .glo "checked",
  .glo "entry_behind",
  .glo "entry_of_both",
  .glo "ways_from",
  .glo "guess",
  .glo "_law_cell_at",
  .glo "_law_value",
  .glo "_law_row",
  .glo "_law_body",
  .glo "_law_function",
  .glo "_law_code",
  .glo "_law_any_row",
  .glo "_law_any_code",
  .glo "_law_table",
  .glo "_law_landing",
  .glo "_law_as_then",
  .glo "_law_landed",
  .glo "_law_back",
  .glo "law",
  .glo "Set",
  .glo "Copy",
  .glo "Add",
  .glo "Grow",
  .glo "Shrink",
  .glo "Put",
  .glo "Get",
  .glo "Jump",
  .glo "Branch",
  .glo "Call",
  .glo "Back",
  .glo "Drop",
  .glo "Table",
  .glo "Machine",
  .glo "Fill",
  .glo "START",
  .glo "NoTable",
  .glo "Astray",
  .cls "Set",
  .mkr "Set",
  .noat "Set" "box",
  .noat "Set" "number",
  .cls "Copy",
  .mkr "Copy",
  .noat "Copy" "box",
  .noat "Copy" "one",
  .cls "Add",
  .mkr "Add",
  .noat "Add" "box",
  .noat "Add" "one",
  .noat "Add" "other",
  .cls "Grow",
  .mkr "Grow",
  .noat "Grow" "many",
  .cls "Shrink",
  .mkr "Shrink",
  .noat "Shrink" "many",
  .cls "Put",
  .mkr "Put",
  .noat "Put" "box",
  .noat "Put" "cell",
  .cls "Get",
  .mkr "Get",
  .noat "Get" "box",
  .noat "Get" "cell",
  .cls "Jump",
  .mkr "Jump",
  .noat "Jump" "target",
  .cls "Branch",
  .mkr "Branch",
  .noat "Branch" "box",
  .noat "Branch" "target",
  .cls "Call",
  .mkr "Call",
  .noat "Call" "target",
  .cls "Back",
  .mkr "Back",
  .noat "Back" "box",
  .cls "Drop",
  .mkr "Drop",
  .noat "Drop" "box",
  .cls "Table",
  .mkr "Table",
  .noat "Table" "entries",
  .noat "Table" "landings",
  .cls "Machine",
  .mkr "Machine",
  .noat "Machine" "code",
  .noat "Machine" "table",
  .noat "Machine" "home",
  .noat "Machine" "place",
  .noat "Machine" "held",
  .noat "Machine" "cells",
  .noat "Machine" "calls",
  .noat "Machine" "lost",
  .noat "Machine" "state",
  .meth "Set" "goes",
  .meth "Set" "height",
  .meth "Set" "keeps",
  .meth "Set" "runs",
  .meth "Set" "value",
  .meth "Copy" "goes",
  .meth "Copy" "height",
  .meth "Copy" "keeps",
  .meth "Copy" "runs",
  .meth "Copy" "value",
  .meth "Add" "goes",
  .meth "Add" "height",
  .meth "Add" "keeps",
  .meth "Add" "runs",
  .meth "Add" "value",
  .meth "Add" "comes_to",
  .meth "Grow" "goes",
  .meth "Grow" "height",
  .meth "Grow" "keeps",
  .meth "Grow" "runs",
  .meth "Shrink" "goes",
  .meth "Shrink" "height",
  .meth "Shrink" "keeps",
  .meth "Shrink" "runs",
  .meth "Put" "goes",
  .meth "Put" "height",
  .meth "Put" "keeps",
  .meth "Put" "runs",
  .meth "Get" "goes",
  .meth "Get" "height",
  .meth "Get" "keeps",
  .meth "Get" "runs",
  .meth "Jump" "goes",
  .meth "Jump" "height",
  .meth "Jump" "keeps",
  .meth "Jump" "runs",
  .meth "Branch" "goes",
  .meth "Branch" "height",
  .meth "Branch" "keeps",
  .meth "Branch" "runs",
  .meth "Call" "goes",
  .meth "Call" "height",
  .meth "Call" "keeps",
  .meth "Call" "runs",
  .meth "Back" "goes",
  .meth "Back" "height",
  .meth "Back" "keeps",
  .meth "Back" "runs",
  .meth "Drop" "goes",
  .meth "Drop" "height",
  .meth "Drop" "keeps",
  .meth "Drop" "runs",
  .meth "Machine" "at",
  .meth "Machine" "boxes",
  .meth "Machine" "pile",
  .meth "Machine" "word",
  .meth "Machine" "fault",
  .meth "Machine" "step",
  .meth "Machine" "go_on",
  .meth "Machine" "drop",
  .meth "Machine" "land",
  .exc "NoTable",
  .exm "NoTable" "NoTable" true]
/-! ### further facts: isinstance, START, a base's __init__ -/
def kits : List (Str × Bool × Bool × Bool) := [("Set", false, false, false), ("Copy", false, false, false), ("Add", false, false, false), ("Grow", false, false, false), ("Shrink", false, false, false), ("Put", false, false, false), ("Get", false, false, false), ("Jump", false, false, false), ("Branch", false, false, false), ("Call", false, true, false), ("Back", true, false, false), ("Drop", false, false, true)]
def insB (K : PySem.W.Frag) (x : Str) : Bool := He.eqO (PySem.W.findIn K (.ref (ga K x)) "__class__") (some (some (.builtin "object.__class__"))) && decide (PySem.W.mroIn K (ga K x) (.type "object") = some true)
def kitB3 (K : PySem.W.Frag) (q : Str × Bool × Bool × Bool) : Bool := insB K q.1 && (decide (PySem.W.kitOne K (.ref (ga K q.1)) (.ref (ga K "Back")) = some q.2.1) && (decide (PySem.W.kitOne K (.ref (ga K q.1)) (.ref (ga K "Call")) = some q.2.2.1) && decide (PySem.W.kitOne K (.ref (ga K q.1)) (.ref (ga K "Drop")) = some q.2.2.2)))
def startB (K : PySem.W.Frag) : Bool := match K.lookup (ga K "START") with
  | some ⟨.type c, _, .seq its _, _⟩ => decide (c = "tuple") && (decide (its.size ≤ sizeLine) && (match its.toList with
    | [.int a _, .int b _, .ref q] => decide (a = 0) && (decide (b = 128) && (match K.lookup q with
      | some ⟨.type c2, _, .seq its2 _, _⟩ => decide (c2 = "tuple") && (decide (its2.size ≤ sizeLine) && He.relAll [.int 16, .int 32, .int 64] its2.toList)
      | _ => false))
    | _ => false))
  | _ => false
def fillB (K : PySem.W.Frag) : Bool := PySem.W.readsIn K (ga K "Fill") (.type "type") && (He.eqO (PySem.W.specialIn K (.ref (ga K "Fill")) "__getattribute__") (some (some (.builtin "type.__getattribute__"))) && (match PySem.W.findCls K (.ref (ga K "Fill")) (.type "type") "__init__" with
  | some (.val (.ref f)) => decide (f = ma K (ga K "Fill") "__init__")
  | _ => false))
def exB (K : PySem.W.Frag) : Bool := kits.all (kitB3 K) && (startB K && fillB K)

/-! ### the part of the heap that the facts are read off: built item by item -/
def bld {β : Type} (g : Addr → Option Obj) : List Addr → (PySem.W.Frag → β) → β
  | [], k => k []
  | a :: r, k => match g a with
    | some o => bld g r fun K => k ((a, o) :: K)
    | none => bld g r k
theorem bld_eq {β : Type} (g : Addr → Option Obj) : ∀ (as : List Addr) (k : PySem.W.Frag → β), bld g as k = k (He.frG g as)
  | [], _ => rfl
  | a :: r, k => by
    show (match g a with
    | some o => bld g r fun K => k ((a, o) :: K)
    | none => bld g r k) = _
    unfold He.frG
    rw [List.filterMap_cons]
    cases g a with
    | some o => exact bld_eq g r _
    | none => exact bld_eq g r _
def dictRefs : Option Obj → List Addr
  | some ⟨_, _, .dict es _, _⟩ => es.toList.flatMap fun e => He.refV e.val
  | _ => []
def nsRefs : Option Obj → List Addr
  | some ⟨_, _, .cls cd, _⟩ => [cd.ns]
  | _ => []
def inRefs : Option Obj → List Addr
  | some ⟨_, _, .func fd, _⟩ => He.refV fd.code ++ He.refV fd.defaults
  | some ⟨_, _, .seq its _, _⟩ => its.toList.flatMap He.refV
  | _ => []
def adrs (g : Addr → Option Obj) : List Addr :=
  let G := dictRefs (g mainGlobals)
  let N := G.flatMap fun a => nsRefs (g a)
  let F := N.flatMap fun a => dictRefs (g a)
  let C := (G ++ F).flatMap fun a => inRefs (g a)
  mainGlobals :: (PySem.cStatics :: (G ++ (N ++ (F ++ C))))
abbrev AlF : Type := He.AlD × Bool
def obsK (g : Addr → Option Obj) : AlF := bld g (adrs g) fun K => (He.obsD fa1 fn1 K, exB K)
def SaysF (K : PySem.W.Frag) : Prop := He.SaysD fa1 fn1 K ∧ exB K = true
def hookF : PySem.W.Hook where
  α := AlF
  obs := fun s => obsK s.heap.get?
  val := fun _ => (He.valD fn1, true)
  says := fun _ h => ∃ K : PySem.W.Frag, K.In h ∧ SaysF K
  of := fun w s e => by
    have e2 : obsK s.heap.get? = (He.valD fn1, true) := e
    unfold obsK at e2
    rw [bld_eq] at e2
    exact ⟨_, He.frG_in, congrArg (fun z : AlF => z.1) e2, congrArg (fun z : AlF => z.2) e2⟩
  keeps := fun _ _ _ ⟨K, hK, c⟩ k => ⟨K, PySem.W.Frag.In.keeps hK k, c⟩
def ob (s : PySem.W.SharedT) : AlF := obsK (HandSHeadRun.getT s)
theorem ob_eq (s : PySem.W.SharedT) : ob s = hookF.obs s.abs := by
  have e : HandSHeadRun.getT s = s.abs.heap.get? := funext (HandSHeadRun.getT_eq s)
  unfold ob
  rw [e]
  rfl
abbrev R : PySem.W.OpenRow := PySem.W.OpenLaw.row PySem.Challenge.rw_frameback_k92_whole_all_as_at_the_call

def loose : List PySem.Str := (["_wall", "FrameError", "NoRow", "NoTable", "Astray", "BOXES_tables", "START", "Table", "MOST", "lying", "one_up", "callers", "WORD", "BOXES_rows", "MOST_CELLS", "MOST_ROWS", "within", "with_value", "without", "followed", "bit_of", "Row", "Fill", "Set", "Copy", "Reckon", "Add", "Grow", "Shrink", "Touch"] : List PySem.Str) ++ (["Put", "Get", "LINK", "KEPT", "Jump", "Branch", "Call", "Back", "Drop", "Machine", "DEEPEST", "is_set", "is_entry", "may_go_back", "own_complaint", "unlike", "onward", "landed", "checked", "entry_behind", "entry_of_both", "ways_from", "guess", "_law_cell_at", "_law_value", "_law_row", "_law_body", "_law_function", "_law_code", "_law_any_row"] : List PySem.Str) ++ (["_law_any_code", "_law_table", "_law_landing", "_law_as_then", "_law_landed", "_law_back"] : List PySem.Str)
end Fb

set_option Elab.async false
set_option linter.all false
set_option maxRecDepth 100000
set_option maxHeartbeats 0
namespace Fb
open PySem PySem.Spec PyProof.Rows L2
theorem run (w : World) : HandSHeadRun.RunEq R (PySem.W.view R.prog [75]) hookF ob 20000 loose w := by
  intro os
  kernel_rfl
end Fb

set_option Elab.async false
set_option linter.all false
set_option maxRecDepth 100000
set_option maxHeartbeats 4000000
/-! rules that the layer lacks, for this program -/
namespace Fb
open PySem PySem.Spec PyProof.Rows L2
open He (ga ma)
/-! ### a def by its positional promise -/
section
variable {P : Program} {w : World} {K : PySem.W.Frag} {mg : Str → Option Value} {base : Heap}
theorem fnr {CX : CXT} {x qual : Str} {params : Arguments} {body : List Stmt} {scope : Scope} {f : Addr} {N ps : List Str} {k : Nat} {sp : Sp} (F : ∃ fd, FunD K x qual params body scope [] [] f fd) (S : FnScope N ps scope)
    (len : ∀ vs H Q E, sp vs H Q E → vs.length = ps.length)
    (hb : ∀ (kV doc pm : Value) (an : Option Addr) (cdv ct : Value) (us : List Value), us.length = ps.length → bindArgs (PySem.W.fnOf x qual params body scope .none kV doc pm an cdv ct) ⟨us, []⟩ = pure (ps.zip us))
    (hbody : ∀ (cdv : Value) (A : Around) (outer : List Env) (s : Shared) (H : Hp) (vs : List V) (Q : VK) (E : XK), Room k (A.deeper (envOfC qual scope s.heap.objs.size f cdv)) → sp vs H Q E →
      ∃ t, PSs (cxOf CX P w K mg base N qual scope f cdv A outer s H E) body t ∧ t { nx := fun _ H' => Q .non H', rt := Q } (start N vs) H) : FnR P w K mg base CX (k + 1) f sp := by
  obtain ⟨fd, F⟩ := F
  have h1 := (F.ok S len hbody).raw (F.bindsN hb) .nil
  exact h1.imp fun vs H Q E h => by rw [List.append_nil]; exact h
/-- .. that lets no exception out: its body is read without -/
theorem fnr0 {x qual : Str} {params : Arguments} {body : List Stmt} {scope : Scope} {f : Addr} {N ps : List Str} {k : Nat} {sp : Sp} (F : ∃ fd, FunD K x qual params body scope [] [] f fd) (S : FnScope N ps scope)
    (len : ∀ vs H Q E, sp vs H Q E → vs.length = ps.length)
    (hb : ∀ (kV doc pm : Value) (an : Option Addr) (cdv ct : Value) (us : List Value), us.length = ps.length → bindArgs (PySem.W.fnOf x qual params body scope .none kV doc pm an cdv ct) ⟨us, []⟩ = pure (ps.zip us))
    (hbody : ∀ (cdv : Value) (A : Around) (outer : List Env) (s : Shared) (H : Hp) (vs : List V) (Q : VK) (E : XK), Room k (A.deeper (envOfC qual scope s.heap.objs.size f cdv)) → sp vs H Q E →
      ∃ t, PSs (cxOf CX0 P w K mg base N qual scope f cdv A outer s H E).nox body t ∧ t { nx := fun _ H' => Q .non H', rt := Q } (start N vs) H) : FnR P w K mg base CX0 (k + 1) f sp :=
  fnr F S len hb fun cdv A outer s H vs Q E hr h => by
    obtain ⟨t, h1, h2⟩ := hbody cdv A outer s H vs Q E hr h
    exact ⟨t, h1.nox, h2⟩
end
/-! ### calls by such a promise -/
section
variable {X : Cx} {CX : CXT} {k : Nat} {f C : Addr} {sp : Sp} {E : XK} {x m : Str} {p pos apos : Pos} {e o : Expr} {es : List Expr} {ta : TE} {t : TA} {mc : Value} {pl : Sem Bool}
def tF (sp : Sp) (E : XK) (t : TA) : TE := fun σ H Q => t σ H fun vs H1 => sp vs H1 Q E
/-- x(e, ..) -/
theorem pe_f (F : FnR X.prog X.w X.K X.mg X.base CX k f sp) (hr : Room k X.A) (hg : Gl X x) (hm : X.mg x = some (.ref f)) (hk : PySem.W.keepIn X.K (.ref f) = true) (hx : Passes CX X E)
    (ha : PA X (e :: es) t) (hdb : (x == ("__debug__" : Str)) = false := by decide) (he : starEach (e :: es) X.env = (false, eval e X.env) :: starEach es X.env := by rfl) (hpl : (backTo pos (starEach es X.env)).any (·.1) = false := by rfl) :
    PE X (.Call (.Name x p) (e :: es) [] pos) (tF sp E t) := by
  refine ⟨fun pins s σ H Q I h => ?_⟩
  refine wpAny_Call_Name_kw (ld_glob I hg hm ?_ hdb)
  refine PySem.W.callWith_K (h₀ := X.base) I.ok.mod.kin hk (thn (ha.run pos pins s σ H _ I h) fun us s1 ⟨vs, H1, I1, r, q⟩ => ⟨I1.kIn, ?_⟩) he hpl
  exact wpAny_call (run_fnR F hr hx I1 r q)
/-- o.m(), o an instance of the class at C -/
theorem pe_m0 (he : PE X o ta) (c : Cls X.K C) (hm : Meth X.K C m f) (F : FnR X.prog X.w X.K X.mg X.base CX k f sp) (hr : Room k X.A) (hx : Passes CX X E)
    (ht : eval (.Call (.Attribute o m apos) [] [] pos) X.env = (do
      let ov ← eval o X.env
      standAt apos.atName
      let (f, first) ← holding [ov] (getMethod ov m pl)
      callWith pos f first (backTo pos (starEach [] X.env)) (backToKw pos (keywordEach [] X.env))) := by rfl) :
    PE X (.Call (.Attribute o m apos) [] [] pos) (tMethR C m sp E ta tNil) := by
  refine ⟨fun pins s σ H Q I h => ?_⟩
  refine PySem.W.methodCall_KW (pl := pl) (thn (he.run pins s σ H _ I h) fun u s1 ⟨x, H1, I1, rx, a, dx, fs, ex, ea, l, q⟩ => ?_) ht
  subst ex
  obtain rfl : u = Value.ref a := rx
  refine getmeth_ok I1 ea c hm l ?_
  exact PySem.W.callWith_K0 (first := [.ref a]) I1.kIn hm.kp (wpAny_call (run_fnR (us := [.ref a]) (vs := [.ref a]) F hr hx I1 (.cons rfl .nil) q))
/-- C.m(e, ..), m a plain def of the class at C: nothing is bound -/
def tCF (C : Addr) (sp : Sp) (E : XK) (ta : TE) (t : TA) : TE := fun σ H Q => ta σ H fun x H1 => x = .ref C ∧ t σ H1 fun vs H2 => sp vs H2 Q E
theorem pe_cf (he : PE X o ta) (r : ClX.CRead X.K C mc) (c : ClX.CVal X.K C mc m (.ref f) (.ref f)) (hk : PySem.W.keepIn X.K (.ref f) = true) (F : FnR X.prog X.w X.K X.mg X.base CX k f sp) (hr : Room k X.A) (hx : Passes CX X E) (ha : PA X (e :: es) t)
    (hst : starEach (e :: es) X.env = (false, eval e X.env) :: starEach es X.env := by rfl) (hpl : (backTo pos (starEach es X.env)).any (·.1) = false := by rfl)
    (ht : eval (.Call (.Attribute o m apos) (e :: es) [] pos) X.env = (do
      let ov ← eval o X.env
      standAt apos.atName
      let (f, first) ← holding [ov] (getMethod ov m pl)
      callWith pos f first (backTo pos (starEach (e :: es) X.env)) (backToKw pos (keywordEach [] X.env))) := by rfl) :
    PE X (.Call (.Attribute o m apos) (e :: es) [] pos) (tCF C sp E ta t) := by
  refine ⟨fun pins s σ H Q I h => ?_⟩
  refine PySem.W.methodCall_KW (pl := pl) (thn (he.run pins s σ H _ I h) fun u s1 ⟨x, H1, I1, rx, ex, q⟩ => ?_) ht
  subst ex
  obtain rfl : u = Value.ref C := rx
  refine PySem.W.method_cls I1.kIn r.ga (ClX.getcval_ok I1 r c fun s2 I2 => ?_)
  refine PySem.W.callWith_K (first := []) (h₀ := X.base) I.ok.mod.kin hk (thn (ha.run pos pins s2 σ H1 _ I2 q) fun us s3 ⟨vs, H2, I3, rv, q2⟩ => ⟨I3.kIn, ?_⟩) hst hpl
  exact wpAny_call (run_fnR F hr hx I3 rv q2)
end
/-! ### all of a list of numbers; a list beside the empty one -/
section
variable {X : Cx}
theorem Vals.intsOf : ∀ {ns : List Int} {us : List Value}, Vals (ns.map V.int) us → us.length = ns.length ∧ ∀ (i : Nat) (v : Value), us[i]? = some v → ∃ t, v = Value.int (ns.getD i 0) t
  | [], _, .nil => ⟨rfl, fun i v h => by simp at h⟩
  | n :: ns, _, .cons r t => by
    obtain ⟨e, k⟩ := Vals.intsOf t
    refine ⟨by simp [e], fun i v h => ?_⟩
    cases i with
    | zero =>
      simp at h
      subst h
      exact r
    | succ i => simpa using k i v (by simpa using h)
def rAllI (K : PySem.W.Frag) : List V → Hp → VK → Prop := fun vs H Q => ∃ (a : Addr) (ns : List Int), vs = [V.ref a] ∧ SqL K H a (ns.map V.int) ∧ Q (.bl (ns.all fun n => n != 0)) H
theorem all_rangeI : ∀ ns : List Int, (List.range ns.length).all (fun i => ns.getD i 0 != 0) = ns.all fun n => n != 0
  | [] => rfl
  | b :: bs => by
    rw [List.length_cons, List.range_succ_eq_map, List.all_cons, List.all_map, List.all_cons, ← all_rangeI bs]
    all_goals rfl
theorem cr_allI (hc : X.calm = true) : CallR X (.builtin "all") (rAllI X.K) := by
  intro pins s σ H vs us Q I r h
  obtain ⟨a, ns, rfl, hs, q⟩ := h
  obtain ⟨its, rv, hl, _⟩ := I.list hs
  rw [Vals.ref1 r]
  obtain ⟨hlen, hv⟩ := Vals.intsOf rv
  refine call_all_walk (iter_any hl.isList fun s₂ e2 st hne => ?_)
  subst e2
  refine ⟨_, _, _, _, _, _, _, rfl, Walks.list (A := X.A.in1) (I.ok.hd hc) _ a hne its.toArray, st, (fun i v s Q E h1 h2 => ?_ : TruthOf X.prog X.w X.A.in1 (fun i v => its.toArray[i]? = some v) (fun i => ns.getD i 0 != 0)), fun h' tk hk => ?_⟩
  · obtain ⟨t, rfl⟩ := hv i v (by simpa using h1)
    exact truthy_int h2
  · refine ⟨.bl _, H, I.kept fun b o eo => hk b o (fun hmem => ?_) (Heap.get?_push_of_some _ eo), ?_, q⟩
    · rcases List.mem_cons.mp hmem with e1 | hmem
      · exact absurd (e1 ▸ Heap.lt_size eo) (Nat.lt_irrefl _)
      · cases hmem
    · show Value.bool _ = Value.bool _
      rw [← all_rangeI, List.size_toArray, hlen]
def rEqNil (K : PySem.W.Frag) (neg : Bool) : R2 := fun x y H Q => ∃ a b xs, x = V.ref a ∧ y = V.ref b ∧ SqL K H a xs ∧ SqL K H b [] ∧ Q (.bl (if neg then !xs.isEmpty else xs.isEmpty)) H
theorem op_eqNil (hu : X.A.units < cLine) : OpR X (compareOp .Eq) (rEqNil X.K false) := by
  intro pins s σ H x y v u Q I rx ry h
  obtain ⟨a, b, xs, rfl, rfl, h1, h2, q⟩ := h
  cases (show v = Value.ref a from rx)
  cases (show u = Value.ref b from ry)
  obtain ⟨its, rv, hl, _⟩ := I.list h1
  obtain ⟨its2, rv2, hl2, _⟩ := I.list h2
  cases rv2
  have e := rv.length
  cases xs with
  | nil =>
    cases rv
    exact SeqAt.eq_listAt (e := fun _ => true) hl.isList hl2.isList rfl hu (fun j h1 => absurd h1 (by simp)) ⟨.bl true, H, I, rfl, q⟩
  | cons y ys =>
    refine SeqAt.eq_list_lengthsAt hl.isList hl2.isList ?_ hu ⟨.bl false, H, I, rfl, q⟩
    cases rv
    simp
theorem op_neNil (hu : X.A.units < cLine) : OpR X (compareOp .NotEq) (rEqNil X.K true) := by
  intro pins s σ H x y v u Q I rx ry h
  obtain ⟨a, b, xs, rfl, rfl, h1, h2, q⟩ := h
  cases (show v = Value.ref a from rx)
  cases (show u = Value.ref b from ry)
  obtain ⟨its, rv, hl, _⟩ := I.list h1
  obtain ⟨its2, rv2, hl2, _⟩ := I.list h2
  cases rv2
  have e := rv.length
  cases xs with
  | nil =>
    cases rv
    exact SeqAt.RcNeAt.lists (e := fun _ => true) hl.isList hl2.isList rfl hu (fun j h1 => absurd h1 (by simp)) X.prog X.w X.xe _ ⟨.bl false, H, I, rfl, q⟩
  | cons y ys =>
    refine SeqAt.RcNeAt.lists_lengths hl.isList hl2.isList ?_ hu X.prog X.w X.xe _ ⟨.bl true, H, I, rfl, q⟩
    cases rv
    simp
end
end Fb

set_option Elab.async false
set_option linter.all false
set_option maxRecDepth 100000
set_option maxHeartbeats 4000000
/-! for i, x in enumerate(xs, start=k) -/
namespace Fb
open PySem PySem.Spec PyProof.Rows L2
open He (ga ma)
def Itek (K : PySem.W.Frag) (a : Addr) (k0 : Int) : It :=
  ⟨fun i H => ∃ (xs : List V) (x : V), SqL K H a xs ∧ xs[i]? = some x, fun i H v H' => ∃ T x, v = .ref T ∧ H T = none ∧ H' = upd H T (.tup [.int (k0 + (i : Nat)), x]) ∧ ∀ xs, SqL K H a xs → xs[i]? = some x, fun i H => ∃ xs : List V, SqL K H a xs ∧ xs.length ≤ i⟩
/-- a list's iterator at its end -/
theorem drawn_out {prog : Program} {w : World} {A : Around} {it l : Addr} {items : Array Value} {i : Nat} (hh : A.handled = none) (hx : items[i]? = none) :
    Draws prog w A it [it, l] i (fun _ _ => False) (fun j h => j = i ∧ h.IsListIter it l i ∧ h.IsList l items) where
  live := fun _ _ st => let ⟨o, ho, _⟩ := st.2.1; ⟨o, ho⟩
  frame := fun _ _ _ st hk => ⟨st.1, st.2.1.at fun o e => hk it (by simp) o e, st.2.2.at fun o e => hk l (by simp) o e⟩
  item := fun j s Q E hj st hQ => absurd hj (by rw [st.1]; exact Nat.lt_irrefl _)
  done := fun s Q E st hE => wpAny_nextOf_list_end hh st.2.1 st.2.2 hx hE
theorem turn_enumk {P : Program} {w : World} {K : PySem.W.Frag} {elts : List Expr} {kk : Nat} {tpos : Pos} (a e it : Addr) (k0 : Int) :
    Turn P w K (.Tuple elts kk tpos) (Itek K a k0) [e, it] e (fun i h => (∃ old, IsEnum h e it (k0 + ((i : Nat) : Int)) old) ∧ h.IsListIter it a i ∧ e ≠ it ∧ e ≠ a ∧ it ≠ a) where
  mem := by simp
  obj := fun i h st b hb => by
    obtain ⟨⟨old, he⟩, ⟨o, ho, hc, hd⟩, _⟩ := st
    have e' : b = e ∨ b = it := by simpa using hb
    rcases e' with z | z
    · rw [z]; exact ⟨_, he, fun v q => nomatch q⟩
    · rw [z]; exact ⟨o, ho, fun v q => by rw [hd] at q; cases q⟩
  keep := fun i h h' st k => let ⟨⟨old, he⟩, hi, hne⟩ := st; ⟨⟨old, k e (by simp) _ he⟩, hi.at fun o q => k it (by simp) o q, hne⟩
  item := by
    intro X hP hw hK hc i pins s σ H E I hf st hg
    subst hP hw hK
    obtain ⟨⟨old, he⟩, hit, hne, hea, hia⟩ := st
    obtain ⟨xs, x, hq, hx⟩ := hg
    obtain ⟨its, rv, p, hz⟩ := I.list hq
    obtain ⟨u, hu, ru⟩ := rv.get hx
    have hel : e < s.heap.objs.size := Heap.lt_size he
    have hil : it < s.heap.objs.size := by obtain ⟨_, q, _⟩ := hit; exact Heap.lt_size q
    have hlt : i < its.toArray.size := by
      have := (List.getElem?_eq_some_iff.mp hu).1
      simpa using this
    refine wpAny_pyNext_enum_itemC (Draws.list (A := X.A.in1) (I.ok.hd hc) it a (Ne.symm hia) its.toArray) he ⟨hit, p.isList⟩ hlt hne (by simp [hne, hea]) fun y h' tk hP ho hst hT hsz hk => ?_
    obtain ⟨hit', hl'⟩ := hst
    have ey : y = u := by
      rw [show its.toArray[i]? = some u by simpa using hu] at hP
      exact (Option.some.inj hP).symm
    subst ey
    refine ⟨_, rfl, wpAny_letOwnedTupleGo_enum (s := { s with heap := h', toks := tk + 1 }) ho fun h'' he' sb => ?_⟩
    have hT2 : h''.get? s.heap.objs.size = some { cls := .type "tuple", data := .seq #[.int (k0 + (i : Nat)) tk, y] } := (sb.2 _ (Nat.ne_of_gt hel)).trans hT
    have new : ObjOk X.prog X.w (upd H s.heap.objs.size (.tup [.int (k0 + (i : Nat)), x])) h'' s.heap.objs.size (.tup [.int (k0 + (i : Nat)), x]) :=
      ⟨by show 2 ≤ sizeLine; decide, [.int (k0 + (i : Nat)) tk, y], .cons ⟨_, rfl⟩ (.cons ru .nil), ⟨_, hT2, rfl, _, rfl⟩⟩
    have I1 : Inv X pins σ (upd H s.heap.objs.size (.tup [.int (k0 + (i : Nat)), x])) { s with heap := h'', toks := tk + 1 } :=
      I.turnedNew (ch := [e, it]) (fun b ob hb q => (sb.2 b (fun z => hb (by simp [z]))).trans (hk b ob (fun z => hb (by simp [z])) (fun z => hb (by simp [z])) q)) hf (Nat.le_refl _) new
    refine ⟨.ref s.heap.objs.size, _, I1, rfl, ⟨_, x, rfl, I.hok.fresh (Nat.le_refl _), rfl, fun ys hy => by rw [I.list_inj hy hq]; exact hx⟩, ⟨⟨y, ?_⟩, hit'.at fun o q => (sb.2 it (Ne.symm hne)).trans q, hne, hea, hia⟩, fun b hb => ?_⟩
    · have e1 : k0 + ((i + 1 : Nat) : Int) = k0 + (i : Int) + 1 := by omega
      rw [e1]; exact he'
    · have hb' : b < s.heap.objs.size := by
        have e' : b = e ∨ b = it := by simpa using hb
        rcases e' with z | z
        · rw [z]; exact hel
        · rw [z]; exact hil
      rw [upd_ne (Nat.ne_of_lt hb')]
      exact (hf b hb).1
  done := by
    intro X hP hw hK hc i pins s σ H E I hf st hg
    subst hP hw hK
    obtain ⟨⟨old, he⟩, hit, hne, hea, hia⟩ := st
    obtain ⟨xs, hq, hx⟩ := hg
    obtain ⟨its, rv, p, hz⟩ := I.list hq
    obtain ⟨f0, f1, f2, f3, f4, f5⟩ := hf it (by simp)
    have hl := rv.length
    have hend : its.toArray[i]? = none := by simp; omega
    exact wpAny_pyNext_enum_endD (drawn_out (I.ok.hd hc) hend) he ⟨rfl, hit, p.isList⟩ fun h' eb => ⟨rfl, I.turned (t' := s.toks) (fun b o hb q => eb b o hb q) f0 f1 f3 f4 f5⟩
  self := fun A i s Q E st h => let ⟨⟨_, he⟩, _⟩ := st; wpAny_pyIter_enum he h
/-- the call's keywords beside a built-in class -/
theorem call_tykw {X : Cx} {pos : Pos} {T : String} {e : Expr} {es : List Expr} {kws : List Keyword} {A : Around} {E Q : Value → Shared → Prop} {s : Shared} (hall : (backToKw pos (keywordEach kws X.env)).all (·.1.isSome) = true)
    (h : wpAny (model X.prog X.w) A (spliced (backTo pos (starEach (e :: es) X.env))) (fun vs s₁ => wpAny (model X.prog X.w) A (evalAll ((backToKw pos (keywordEach kws X.env)).map (·.2)))
      (fun ks s₂ => wpAny (model X.prog X.w) A (call (.type T) vs (((backToKw pos (keywordEach kws X.env)).filterMap (·.1)).zip ks)) Q E s₂) E s₁) E s)
    (hplain : ((backTo pos (starEach (e :: es) X.env)).any (·.1) || (backToKw pos (keywordEach kws X.env)).any (·.1.isNone)) = false) (he : starEach (e :: es) X.env = (false, eval e X.env) :: starEach es X.env) :
    wpAny (model X.prog X.w) A (callWith pos (.type T) [] (backTo pos (starEach (e :: es) X.env)) (backToKw pos (keywordEach kws X.env))) Q E s :=
  PySem.W.callWith_of (P := fun _ => True) (first := []) hplain (fun _ _ => ⟨_, .inr (.inl rfl), PySem.W.Looks.of_pure rfl⟩) (evalArgs_kw2 hall (thn h fun vs s1 h1 => thn h1 fun ks s2 h2 => ⟨trivial, h2⟩) he)
def iEnumk (K : PySem.W.Frag) (ta tk : TA) : TI := fun σ H R => ta σ H fun vs H1 => tk σ H1 fun ks H2 => ∃ a xs k, vs = [.ref a] ∧ ks = [.int k] ∧ -(2 ^ 63) ≤ k ∧ k < 2 ^ 63 ∧ SqL K H2 a xs ∧ R (Itek K a k) H2
theorem pi_enumk {X : Cx} {e ek : Expr} {ta tk : TA} {p pos tpos kpos : Pos} {elts : List Expr} {kk : Nat} (hg : Gl X "enumerate") (hm : X.mg "enumerate" = none) (ha : PA X [e] ta) (hk : PK X [⟨some "start", ek, kpos⟩] tk)
    (hs : starEach [e] X.env = [(false, eval e X.env)] := by rfl) :
    PI X (.Tuple elts kk tpos) (.Call (.Name "enumerate" p) [e] [⟨some "start", ek, kpos⟩] pos) (iEnumk X.K ta tk) := by
  refine ⟨fun pins s σ H R I h => ?_⟩
  refine wpAny_Call_Name_kw (ld_blt I hg hm boot_enumerate ?_ (by decide) (by decide))
  refine call_tykw rfl (thn (ha.run pos pins s σ H _ I h) fun us s1 ⟨vs, H1, I1, r1, q1⟩ => thn (hk.run pos pins s1 σ H1 _ I1 q1) fun ws s2 ⟨ks, H2, I2, r2, a, xs, k, ex, ek', k1, k2, hq, q⟩ => ?_) (by rw [hs]; rfl) hs
  subst ex ek'
  cases r1 with
  | cons r rr =>
    cases rr
    cases r
    cases r2 with
    | cons r' rr' =>
      cases rr'
      obtain ⟨tk, rfl⟩ := r'
      obtain ⟨its, rv, p', hz⟩ := I2.list hq
      refine enum_begins_start (begins_list a its.toArray) p'.isList k1 k2 fun h' he hit hsz hkp => wpAny_pyIter_enum he ?_
      have I3 : Inv X pins σ H2 { s2 with heap := h' } := I2.kept (t' := s2.toks) hkp
      have hal : a < s2.heap.objs.size := by obtain ⟨_, e, _⟩ := p'.isList; exact Heap.lt_size e
      have e0 : k + ((0 : Nat) : Int) = k := by omega
      refine ⟨s2.heap.objs.size + 1, [s2.heap.objs.size + 1, s2.heap.objs.size], _, _, H2, rfl, I3, turn_enumk a (s2.heap.objs.size + 1) s2.heap.objs.size k, ⟨⟨.none, by rw [e0]; exact he⟩, ⟨_, hit, rfl, rfl⟩, Nat.succ_ne_self _, Nat.ne_of_gt (Nat.lt_succ_of_lt hal), Nat.ne_of_gt hal⟩, fun b hb => ?_, q⟩
      have e' : b = s2.heap.objs.size + 1 ∨ b = s2.heap.objs.size := by simpa using hb
      have hle : s2.heap.objs.size ≤ b := by
        rcases e' with z | z
        · rw [z]; exact Nat.le_add_right _ _
        · rw [z]; exact Nat.le_refl _
      exact I2.fpOk hle (I2.hok.fresh hle)
end Fb

set_option Elab.async false
set_option linter.all false
set_option maxRecDepth 100000
set_option maxHeartbeats 4000000
/-! THE MATHEMATICS: rows, entries, what a good table is; no program in sight -/
namespace Fb
/-! ### rows -/
inductive RowD where
  | set (b n : Nat) | copy (b o : Nat) | add (b o t : Nat) | grow (m : Nat) | shrink (m : Nat) | put (b c : Nat) | get (b c : Nat)
  | jump (t : Nat) | branch (b t : Nat) | call (t : Nat) | back (b : Nat) | drop (b : Nat)
  deriving DecidableEq
/-- its numbers are within (many: at most five, so that no pile grows beyond 4000) -/
def RowD.ok : RowD → Prop
  | .set b n => b ≤ 7 ∧ n ≤ 4294967295
  | .copy b o => b ≤ 7 ∧ o ≤ 7
  | .add b o t => b ≤ 7 ∧ o ≤ 7 ∧ t ≤ 7
  | .grow m => m ≤ 5
  | .shrink m => m ≤ 5
  | .put b c => b ≤ 7 ∧ c ≤ 5
  | .get b c => b ≤ 7 ∧ c ≤ 5
  | .jump t => t ≤ 2000
  | .branch b t => b ≤ 7 ∧ t ≤ 2000
  | .call t => t ≤ 2000
  | .back b => b ≤ 7
  | .drop b => b ≤ 7
/-- a set without a place; behind a row that puts at p what lies at q -/
def woN (s p : Nat) : Nat := if s.testBit p = true then s ^^^ 2 ^ p else s
def foN (s q p : Nat) : Nat := if s.testBit q = true then s ||| 2 ^ p else woN s p
def keepsN : RowD → Nat → Nat → Nat
  | .set b _, s, _ => woN s b
  | .copy b o, s, _ => foN s o b
  | .add b _ _, s, _ => woN s b
  | .grow _, s, _ => s
  | .shrink m, s, h => s &&& (2 ^ (8 + h - m) - 1)
  | .put b c, s, h => foN s b (8 + h - 1 - c)
  | .get b c, s, h => foN s (8 + h - 1 - c) b
  | .jump _, s, _ => s
  | .branch _ _, s, _ => s
  | .call _, s, _ => (s / 2 ^ 8 * 2 ^ 8) ||| (s &&& 112)
  | .back _, s, _ => s
  | .drop _, s, _ => s
def heightN : RowD → Nat → Option Nat
  | .grow m, h => if h + m > 4000 then none else some (h + m)
  | .shrink m, h => if m > h then none else some (h - m)
  | .put _ c, h => if c ≥ h then none else some h
  | .get _ c, h => if c ≥ h then none else some h
  | _, h => some h
def goesN : RowD → Nat → List Nat
  | .jump t, _ => [t]
  | .branch _ t, i => [i + 1, t]
  | .back _, _ => []
  | .drop _, _ => []
  | _, i => [i + 1]
def runsN : RowD → Nat → List Nat → List Nat → Option (Nat × List Nat × List Nat)
  | .set b n, i, bs, p => some (i + 1, bs.set b n, p)
  | .copy b o, i, bs, p => some (i + 1, bs.set b (bs.getD o 0), p)
  | .add b o t, i, bs, p => some (i + 1, bs.set b ((bs.getD o 0 + bs.getD t 0) % 4294967296), p)
  | .grow m, i, bs, p => if p.length + m > 4000 then none else some (i + 1, bs, p ++ List.replicate m 0)
  | .shrink m, i, bs, p => if m > p.length then none else some (i + 1, bs, p.take (p.length - m))
  | .put b c, i, bs, p => if c ≥ p.length then none else some (i + 1, bs, p.set (p.length - 1 - c) (bs.getD b 0))
  | .get b c, i, bs, p => if c ≥ p.length then none else some (i + 1, bs.set b (p.getD (p.length - 1 - c) 0), p)
  | .jump t, _, bs, p => some (t, bs, p)
  | .branch b t, i, bs, p => if bs.getD b 0 ≠ 0 then some (t, bs, p) else some (i + 1, bs, p)
  | .call t, i, bs, p => some (t, bs.set 7 (i + 1), p)
  | .back b, _, bs, p => some (bs.getD b 0, bs, p)
  | .drop _, _, _, _ => none
/-! ### entries -/
structure Ent where
  h : Nat
  b : Nat
  x4 : Nat
  x5 : Nat
  x6 : Nat
  deriving DecidableEq
def START : Ent := ⟨0, 128, 16, 32, 64⟩
/-- each place of a is a place of b -/
def Sub (a b : Nat) : Prop := a &&& b = a
theorem Sub.at {a b p : Nat} (s : Sub a b) (h : a.testBit p = true) : b.testBit p = true := by
  have e : (a &&& b).testBit p = true := by rw [s]; exact h
  rw [Nat.testBit_and, Bool.and_eq_true] at e
  exact e.2
/-- what a row with its entry leaves for the next one -/
def behindN (r : RowD) (e : Ent) (h : Nat) : Ent := ⟨h, keepsN r e.b e.h, keepsN r e.x4 e.h, keepsN r e.x5 e.h, keepsN r e.x6 e.h⟩
def SubE (a b : Ent) : Prop := a.h = b.h ∧ Sub a.b b.b ∧ Sub a.x4 b.x4 ∧ Sub a.x5 b.x5 ∧ Sub a.x6 b.x6
def IsSet (s h : Nat) : Prop := 0 < s ∧ s < 2 ^ (8 + h)
def IsEntry (e : Ent) : Prop := e.h ≤ 4000 ∧ IsSet e.b e.h ∧ IsSet e.x4 e.h ∧ IsSet e.x5 e.h ∧ IsSet e.x6 e.h
def OwnOk (r : RowD) (e : Ent) : Prop := IsEntry e ∧ (∃ h, heightN r e.h = some h) ∧ ∀ b, r = .back b → e.h = 0 ∧ e.b.testBit b = true ∧ e.x4.testBit 4 = true ∧ e.x5.testBit 5 = true ∧ e.x6.testBit 6 = true
/-- the entry at j follows row r with entry e -/
def Follows (r : RowD) (e : Ent) (es : List (Option Ent)) (j : Nat) : Prop := ∃ o h, es[j]? = some (some o) ∧ heightN r e.h = some h ∧ SubE o (behindN r e h)
def landOf (ls : List (Nat × Nat)) (i : Nat) : Option Nat := (ls.find? fun q => decide (q.1 = i)).map (·.2)
/-- what an empty list of complaints says -/
structure Good (rs : List RowD) (es : List (Option Ent)) (ls : List (Nat × Nat)) : Prop where
  len : es.length = rs.length
  first : rs ≠ [] → es[0]? = some (some START)
  row : ∀ i r e, rs[i]? = some r → es[i]? = some (some e) → OwnOk r e ∧ (∀ j ∈ goesN r i, Follows r e es j) ∧ ∀ t, r = .call t → es[t]? = some (some START)
  land : ∀ i j, landOf ls i = some j → (∃ t, rs[i]? = some (.call t)) ∧ ∀ r e, rs[i]? = some r → es[i]? = some (some e) → Follows r e es j
/-! ### where values lie -/
/-- the value at place p: in a box, or in the piece of height h on top of the pile -/
def valN (bx : Nat → Option Nat) (pile : List Nat) (h p : Nat) : Option Nat :=
  if p < 8 then bx p else if p - 8 < h then pile[pile.length - h + (p - 8)]? else none
def HoldsN (bx : Nat → Option Nat) (pile : List Nat) (h s v : Nat) : Prop := ∀ p, s.testBit p = true → valN bx pile h p = some v
abbrev K3 := Nat × Nat × Nat
/-- a function's piece at entry e tells its caller (row, kept boxes, the pile at the call) -/
structure Tells (bx : Nat → Option Nat) (pile : List Nat) (e : Ent) (row : Nat) (k : K3) (low : List Nat) : Prop where
  le : e.h ≤ pile.length
  base : pile.take (pile.length - e.h) = low
  b : HoldsN bx pile e.h e.b row
  x4 : HoldsN bx pile e.h e.x4 k.1
  x5 : HoldsN bx pile e.h e.x5 k.2.1
  x6 : HoldsN bx pile e.h e.x6 k.2.2
theorem HoldsN.sub {bx : Nat → Option Nat} {pile : List Nat} {h s s' v : Nat} (q : HoldsN bx pile h s v) (l : Sub s' s) : HoldsN bx pile h s' v := fun p hp => q p (l.at hp)
theorem Tells.sub {bx : Nat → Option Nat} {pile : List Nat} {e e' : Ent} {row : Nat} {k : K3} {low : List Nat} (q : Tells bx pile e row k low) (l : SubE e' e) : Tells bx pile e' row k low := by
  obtain ⟨h, a, b, c, d⟩ := l
  refine ⟨by rw [h]; exact q.le, by rw [h]; exact q.base, by rw [h]; exact q.b.sub a, by rw [h]; exact q.x4.sub b, by rw [h]; exact q.x5.sub c, by rw [h]; exact q.x6.sub d⟩
/-- boxes as a function; the boxes of which a caller knows -/
def bxOf (bs : List Nat) : Nat → Option Nat := fun p => bs[p]?
def bxKept (k : K3) : Nat → Option Nat := fun p => if p = 4 then some k.1 else if p = 5 then some k.2.1 else if p = 6 then some k.2.2 else none
/-! ### bits -/
theorem woN_bit (s p q : Nat) : (woN s p).testBit q = (s.testBit q && decide (q ≠ p)) := by
  unfold woN
  by_cases h : s.testBit p = true
  · rw [if_pos h, Nat.testBit_xor, Nat.testBit_two_pow]
    by_cases e : q = p
    · subst e; simp [h]
    · have e' : ¬ p = q := fun z => e z.symm
      simp [e, e']
  · rw [if_neg h]
    by_cases e : q = p
    · subst e; simp at h; simp [h]
    · simp [e]
theorem foN_bit (s q p i : Nat) : (foN s q p).testBit i = if i = p then s.testBit q else s.testBit i := by
  unfold foN
  by_cases h : s.testBit q = true
  · rw [if_pos h, Nat.testBit_or, Nat.testBit_two_pow]
    by_cases e : i = p
    · subst e; simp [h]
    · have e' : ¬ p = i := fun z => e z.symm
      simp [e, e']
  · rw [if_neg h, woN_bit]
    by_cases e : i = p
    · subst e; simp at h; simp [h]
    · simp [e]
theorem call_bit (s i : Nat) : ((s / 2 ^ 8 * 2 ^ 8) ||| (s &&& 112)).testBit i = (s.testBit i && (decide (8 ≤ i) || decide (i = 4 ∨ i = 5 ∨ i = 6))) := by
  rw [Nat.testBit_or, Nat.testBit_and, Nat.mul_comm, Nat.testBit_two_pow_mul, Nat.testBit_div_two_pow]
  by_cases h : 8 ≤ i
  · have e : 8 + (i - 8) = i := by omega
    have e2 : (112 : Nat).testBit i = false := Nat.testBit_lt_two_pow (Nat.lt_of_lt_of_le (by decide : 112 < 2 ^ 8) (Nat.pow_le_pow_right (by decide) h))
    simp [h, e2, Nat.sub_add_cancel h]
  · have h' : i < 8 := by omega
    have e3 : (112 : Nat).testBit i = decide (i = 4 ∨ i = 5 ∨ i = 6) := by
      match i, h' with
      | 0, _ => decide
      | 1, _ => decide
      | 2, _ => decide
      | 3, _ => decide
      | 4, _ => decide
      | 5, _ => decide
      | 6, _ => decide
      | 7, _ => decide
    simp [h, e3]
/-- the lowest place -/
theorem lowest : ∀ x : Nat, 0 < x → ∃ p, x.testBit p = true ∧ x - (x &&& (x - 1)) = 2 ^ p := by
  intro x
  induction x using Nat.strongRecOn with
  | _ x ih =>
    intro hx
    by_cases ho : x % 2 = 1
    · refine ⟨0, by rw [Nat.testBit_zero]; simp [ho], ?_⟩
      have e : x &&& (x - 1) = x - 1 := by
        apply Nat.eq_of_testBit_eq
        intro i
        rw [Nat.testBit_and]
        cases i with
        | zero =>
          rw [Nat.testBit_zero, Nat.testBit_zero]
          have : (x - 1) % 2 = 0 := by omega
          simp [this]
        | succ i =>
          rw [Nat.testBit_succ, Nat.testBit_succ]
          have : (x - 1) / 2 = x / 2 := by omega
          simp [this]
      rw [e]
      omega
    · have h2 : 0 < x / 2 := by omega
      obtain ⟨p, hp, e⟩ := ih (x / 2) (by omega) h2
      refine ⟨p + 1, by rw [Nat.testBit_succ]; exact hp, ?_⟩
      have e2 : x &&& (x - 1) = 2 * (x / 2 &&& (x / 2 - 1)) := by
        apply Nat.eq_of_testBit_eq
        intro i
        rw [Nat.testBit_and]
        cases i with
        | zero =>
          rw [Nat.testBit_zero, Nat.testBit_zero, Nat.testBit_zero]
          have : x % 2 = 0 := by omega
          simp [this]
        | succ i =>
          rw [Nat.testBit_succ, Nat.testBit_succ, Nat.testBit_succ]
          have q1 : (x - 1) / 2 = x / 2 - 1 := by omega
          have q2 : 2 * (x / 2 &&& (x / 2 - 1)) / 2 = (x / 2 &&& (x / 2 - 1)) := by omega
          rw [q1, q2, Nat.testBit_and]
      have hle : (x / 2 &&& (x / 2 - 1)) ≤ x / 2 := Nat.and_le_left
      rw [e2, Nat.pow_succ, ← e]
      omega
end Fb

set_option Elab.async false
set_option linter.all false
set_option maxRecDepth 100000
set_option maxHeartbeats 4000000
namespace Fb
/-! ### one row -/
theorem val_box {bx : Nat → Option Nat} {pile : List Nat} {h p : Nat} (hp : p < 8) : valN bx pile h p = bx p := if_pos hp
theorem val_cell {bx : Nat → Option Nat} {pile : List Nat} {h p v : Nat} (hp : ¬ p < 8) (q : valN bx pile h p = some v) : p - 8 < h ∧ pile[pile.length - h + (p - 8)]? = some v := by
  unfold valN at q
  rw [if_neg hp] at q
  by_cases l : p - 8 < h
  · rw [if_pos l] at q
    exact ⟨l, q⟩
  · rw [if_neg l] at q
    cases q
theorem cell_val {bx : Nat → Option Nat} {pile : List Nat} {h p v : Nat} (hp : ¬ p < 8) (l : p - 8 < h) (q : pile[pile.length - h + (p - 8)]? = some v) : valN bx pile h p = some v := by
  unfold valN
  rw [if_neg hp, if_pos l]
  exact q
/-- a box is filled: places that keep -/
theorem holds_set {bs pile : List Nat} {h s v b y : Nat} (q : HoldsN (bxOf bs) pile h s v) : HoldsN (bxOf (bs.set b y)) pile h (woN s b) v := fun p hp => by
  rw [woN_bit, Bool.and_eq_true, decide_eq_true_eq] at hp
  have z := q p hp.1
  by_cases l : p < 8
  · rw [val_box l] at z ⊢
    show (bs.set b y)[p]? = some v
    rw [List.getElem?_set_ne (fun e => hp.2 e.symm)]
    exact z
  · obtain ⟨z1, z2⟩ := val_cell l z
    exact cell_val l z1 z2
theorem getD_of {l : List Nat} {i v : Nat} (h : l[i]? = some v) : l.getD i 0 = v := by
  rw [List.getD_eq_getElem?_getD, h]
  rfl
structure Ran (r : RowD) (i h h' : Nat) (bs pile : List Nat) (nx : Nat) (bs' pile' : List Nat) : Prop where
  runs : runsN r i bs pile = some (nx, bs', pile')
  goes : nx ∈ goesN r i
  len : bs'.length = 8
  le : h' ≤ pile'.length
  base : pile'.take (pile'.length - h') = pile.take (pile.length - h)
  room : pile'.length ≤ pile.length + 5
  keeps : ∀ s v, HoldsN (bxOf bs) pile h s v → HoldsN (bxOf bs') pile' h' (keepsN r s h) v
theorem run_row {r : RowD} {i h h' : Nat} {bs pile : List Nat} (hr : r.ok) (hb : bs.length = 8) (hh : heightN r h = some h') (hle : h ≤ pile.length) (room : pile.length + 5 ≤ 4000)
    (n1 : ∀ b, r ≠ .drop b) (n2 : ∀ b, r ≠ .back b) (n3 : ∀ t, r ≠ .call t) : ∃ nx bs' pile', Ran r i h h' bs pile nx bs' pile' := by
  cases r with
  | set b n =>
    cases hh
    exact ⟨_, _, _, rfl, List.mem_singleton.mpr rfl, by simp [hb], hle, rfl, by omega, fun s v q => holds_set q⟩
  | add b o t =>
    cases hh
    exact ⟨_, _, _, rfl, List.mem_singleton.mpr rfl, by simp [hb], hle, rfl, by omega, fun s v q => holds_set q⟩
  | copy b o =>
    cases hh
    refine ⟨_, _, _, rfl, List.mem_singleton.mpr rfl, by simp [hb], hle, rfl, by omega, fun s v q p hp => ?_⟩
    obtain ⟨h1, h2⟩ := hr
    rw [show keepsN (.copy b o) s h = foN s o b from rfl, foN_bit] at hp
    by_cases e : p = b
    · subst e
      rw [if_pos rfl] at hp
      have z := q o hp
      rw [val_box (by omega)] at z
      rw [val_box (by omega)]
      show (bs.set p (bs.getD o 0))[p]? = some v
      rw [List.getElem?_set_self (by omega), getD_of z]
    · rw [if_neg e] at hp
      have z := q p hp
      by_cases l : p < 8
      · rw [val_box l] at z ⊢
        show (bs.set b _)[p]? = some v
        rw [List.getElem?_set_ne (fun z => e z.symm)]
        exact z
      · obtain ⟨z1, z2⟩ := val_cell l z
        exact cell_val l z1 z2
  | grow m =>
    have hm : m ≤ 5 := hr
    by_cases c : h + m > 4000
    · rw [show heightN (.grow m) h = none from if_pos c] at hh
      cases hh
    · rw [show heightN (.grow m) h = some (h + m) from if_neg c] at hh
      cases hh
      refine ⟨i + 1, bs, pile ++ List.replicate m 0, if_neg (by omega), List.mem_singleton.mpr rfl, hb, by simp; omega, ?_, by simp; omega, fun s v q p hp => ?_⟩
      · rw [List.length_append, List.length_replicate, show pile.length + m - (h + m) = pile.length - h by omega, List.take_append_of_le_length (by omega)]
      · have z := q p hp
        by_cases l : p < 8
        · rw [val_box l] at z ⊢
          exact z
        · obtain ⟨z1, z2⟩ := val_cell l z
          refine cell_val l (by omega) ?_
          rw [List.length_append, List.length_replicate, show pile.length + m - (h + m) + (p - 8) = pile.length - h + (p - 8) by omega, List.getElem?_append_left (by omega)]
          exact z2
  | shrink m =>
    by_cases c : m > h
    · rw [show heightN (.shrink m) h = none from if_pos c] at hh
      cases hh
    · rw [show heightN (.shrink m) h = some (h - m) from if_neg c] at hh
      cases hh
      refine ⟨i + 1, bs, pile.take (pile.length - m), if_neg (by omega), List.mem_singleton.mpr rfl, hb, by simp; omega, ?_, by simp; omega, fun s v q p hp => ?_⟩
      · rw [List.length_take, List.take_take, Nat.min_eq_left (show pile.length - m ≤ pile.length by omega), show pile.length - m - (h - m) = pile.length - h by omega, Nat.min_eq_left (by omega)]
      · rw [show keepsN (.shrink m) s h = s &&& (2 ^ (8 + h - m) - 1) from rfl, Nat.testBit_and, Nat.testBit_two_pow_sub_one, Bool.and_eq_true, decide_eq_true_eq] at hp
        have z := q p hp.1
        by_cases l : p < 8
        · rw [val_box l] at z ⊢
          exact z
        · obtain ⟨z1, z2⟩ := val_cell l z
          have hp2 := hp.2
          refine cell_val l (by omega) ?_
          rw [List.length_take, Nat.min_eq_left (by omega), show pile.length - m - (h - m) + (p - 8) = pile.length - h + (p - 8) by omega, List.getElem?_take_of_lt (by omega)]
          exact z2
  | put b c =>
    obtain ⟨h1, h2⟩ := hr
    by_cases k : c ≥ h
    · rw [show heightN (.put b c) h = none from if_pos k] at hh
      cases hh
    · rw [show heightN (.put b c) h = some h from if_neg k] at hh
      cases hh
      refine ⟨i + 1, bs, pile.set (pile.length - 1 - c) (bs.getD b 0), if_neg (by omega), List.mem_singleton.mpr rfl, hb, by simp; omega, ?_, by simp, fun s v q p hp => ?_⟩
      · rw [List.length_set, List.take_set_of_le (by omega)]
      · rw [show keepsN (.put b c) s h = foN s b (8 + h - 1 - c) from rfl, foN_bit] at hp
        by_cases e : p = 8 + h - 1 - c
        · rw [if_pos e] at hp
          have z := q b hp
          rw [val_box (by omega)] at z
          refine cell_val (by omega) (by omega) ?_
          rw [List.length_set, show pile.length - h + (p - 8) = pile.length - 1 - c by omega, List.getElem?_set_self (by omega), getD_of z]
        · rw [if_neg e] at hp
          have z := q p hp
          by_cases l : p < 8
          · rw [val_box l] at z ⊢
            exact z
          · obtain ⟨z1, z2⟩ := val_cell l z
            refine cell_val l z1 ?_
            rw [List.length_set, List.getElem?_set_ne (by omega)]
            exact z2
  | get b c =>
    obtain ⟨h1, h2⟩ := hr
    by_cases k : c ≥ h
    · rw [show heightN (.get b c) h = none from if_pos k] at hh
      cases hh
    · rw [show heightN (.get b c) h = some h from if_neg k] at hh
      cases hh
      refine ⟨i + 1, bs.set b (pile.getD (pile.length - 1 - c) 0), pile, if_neg (by omega), List.mem_singleton.mpr rfl, by simp [hb], hle, rfl, by omega, fun s v q p hp => ?_⟩
      rw [show keepsN (.get b c) s h = foN s (8 + h - 1 - c) b from rfl, foN_bit] at hp
      by_cases e : p = b
      · rw [if_pos e] at hp
        obtain ⟨z1, z2⟩ := val_cell (by omega) (q (8 + h - 1 - c) hp)
        rw [show pile.length - h + (8 + h - 1 - c - 8) = pile.length - 1 - c by omega] at z2
        rw [val_box (by omega)]
        show (bs.set b _)[p]? = some v
        rw [e, List.getElem?_set_self (by omega), getD_of z2]
      · rw [if_neg e] at hp
        have z := q p hp
        by_cases l : p < 8
        · rw [val_box l] at z ⊢
          show (bs.set b _)[p]? = some v
          rw [List.getElem?_set_ne (fun z => e z.symm)]
          exact z
        · obtain ⟨z1, z2⟩ := val_cell l z
          exact cell_val l z1 z2
  | jump t =>
    cases hh
    exact ⟨_, _, _, rfl, List.mem_singleton.mpr rfl, hb, hle, rfl, by omega, fun s v q => q⟩
  | branch b t =>
    cases hh
    by_cases c : bs.getD b 0 ≠ 0
    · exact ⟨t, bs, pile, if_pos c, by simp [goesN], hb, hle, rfl, by omega, fun s v q => q⟩
    · exact ⟨i + 1, bs, pile, if_neg c, by simp [goesN], hb, hle, rfl, by omega, fun s v q => q⟩
  | call t => exact absurd rfl (n3 t)
  | back b => exact absurd rfl (n2 b)
  | drop b => exact absurd rfl (n1 b)
/-! ### the calls -/
abbrev CallD := Nat × K3 × List Nat
structure Linked (rs : List RowD) (es : List (Option Ent)) (c d : CallD) : Prop where
  at_ : ∃ i t e, c.1 = i + 1 ∧ rs[i]? = some (.call t) ∧ es[i]? = some (some e) ∧ Tells (bxKept c.2.1) c.2.2 (behindN (.call t) e e.h) d.1 d.2.1 d.2.2
def topOf (bot : CallD) : List CallD → CallD
  | [] => bot
  | c :: _ => c
def Chain (rs : List RowD) (es : List (Option Ent)) (bot : CallD) : List CallD → Prop
  | [] => True
  | c :: r => Linked rs es c (topOf bot r) ∧ Chain rs es bot r
/-- the machine at a row, with its calls -/
structure At (rs : List RowD) (es : List (Option Ent)) (bot : CallD) (place : Nat) (bs pile : List Nat) (calls : List CallD) : Prop where
  len : bs.length = 8
  ent : ∃ r e, rs[place]? = some r ∧ es[place]? = some (some e) ∧ Tells (bxOf bs) pile e (topOf bot calls).1 (topOf bot calls).2.1 (topOf bot calls).2.2
  chain : Chain rs es bot calls
section
variable {rs : List RowD} {es : List (Option Ent)} {ls : List (Nat × Nat)} {bot : CallD} {place : Nat} {bs pile : List Nat} {calls : List CallD}
theorem row_of (G : Good rs es ls) {j : Nat} {o : Option Ent} (h : es[j]? = some o) : ∃ r, rs[j]? = some r := by
  have := (List.getElem?_eq_some_iff.mp h).1
  rw [G.len] at this
  exact ⟨rs[j], List.getElem?_eq_getElem this⟩
/-- a row that neither calls nor leaves -/
theorem at_row (G : Good rs es ls) (hok : ∀ (i : Nat) (r : RowD), rs[i]? = some r → r.ok) (A : At rs es bot place bs pile calls) (room : pile.length + 5 ≤ 4000) {r : RowD} (hr : rs[place]? = some r)
    (n1 : ∀ b, r ≠ .drop b) (n2 : ∀ b, r ≠ .back b) (n3 : ∀ t, r ≠ .call t) :
    ∃ nx bs' pile', runsN r place bs pile = some (nx, bs', pile') ∧ nx < rs.length ∧ At rs es bot nx bs' pile' calls ∧ pile'.length ≤ pile.length + 5 := by
  obtain ⟨r', e, hr', he, T⟩ := A.ent
  rw [hr] at hr'
  cases hr'
  obtain ⟨⟨_, ⟨h', hh⟩, _⟩, fol, _⟩ := G.row place r e hr he
  obtain ⟨nx, bs', pile', R⟩ := run_row (i := place) (hok _ _ hr) A.len hh T.le room n1 n2 n3
  obtain ⟨o, h2, ho, hh2, s⟩ := fol nx R.goes
  rw [hh] at hh2
  cases hh2
  obtain ⟨r2, hr2⟩ := row_of G ho
  refine ⟨nx, bs', pile', R.runs, (List.getElem?_eq_some_iff.mp hr2).1, ⟨R.len, ⟨r2, o, hr2, ho, Tells.sub (e := behindN r e h') ⟨R.le, by rw [← T.base]; exact R.base, R.keeps _ _ T.b, R.keeps _ _ T.x4, R.keeps _ _ T.x5, R.keeps _ _ T.x6⟩ s⟩, A.chain⟩, R.room⟩
theorem kept_holds {h s v : Nat} (hb : bs.length = 8) (q : HoldsN (bxOf bs) pile h s v) (t : Nat) : HoldsN (bxKept (bs.getD 4 0, bs.getD 5 0, bs.getD 6 0)) pile h (keepsN (.call t) s h) v := fun p hp => by
  rw [show keepsN (.call t) s h = (s / 2 ^ 8 * 2 ^ 8) ||| (s &&& 112) from rfl, call_bit, Bool.and_eq_true, Bool.or_eq_true, decide_eq_true_eq, decide_eq_true_eq] at hp
  have z := q p hp.1
  by_cases l : p < 8
  · rw [val_box l] at z ⊢
    have z' : bs[p]? = some v := z
    rcases hp.2 with k | k | k | k
    · omega
    · subst k
      show some (bs.getD 4 0) = some v
      rw [getD_of z']
    · subst k
      show some (bs.getD 5 0) = some v
      rw [getD_of z']
    · subst k
      show some (bs.getD 6 0) = some v
      rw [getD_of z']
  · obtain ⟨z1, z2⟩ := val_cell l z
    exact cell_val l z1 z2
theorem at_call (G : Good rs es ls) (A : At rs es bot place bs pile calls) {t : Nat} (hr : rs[place]? = some (.call t)) :
    t < rs.length ∧ place + 1 < rs.length ∧ At rs es bot t (bs.set 7 (place + 1)) pile ((place + 1, (bs.getD 4 0, bs.getD 5 0, bs.getD 6 0), pile) :: calls) := by
  obtain ⟨r', e, hr', he, T⟩ := A.ent
  rw [hr] at hr'
  cases hr'
  obtain ⟨_, fol, st⟩ := G.row place _ e hr he
  have hs := st t rfl
  obtain ⟨r2, hr2⟩ := row_of G hs
  obtain ⟨o, h2, ho, hh2, s⟩ := fol (place + 1) (List.mem_singleton.mpr rfl)
  obtain ⟨r3, hr3⟩ := row_of G ho
  have hb := A.len
  have g : ∀ p, p < 7 → (bs.set 7 (place + 1))[p]? = some (bs.getD p 0) := fun p hp => by
    rw [List.getElem?_set_ne (by omega), List.getD_eq_getElem?_getD, List.getElem?_eq_getElem (by omega)]
    rfl
  have g7 : (bs.set 7 (place + 1))[7]? = some (place + 1) := List.getElem?_set_self (by omega)
  have one : ∀ (k v : Nat), k < 8 → (bs.set 7 (place + 1))[k]? = some v → HoldsN (bxOf (bs.set 7 (place + 1))) pile 0 (2 ^ k) v := fun k v hk e p hp => by
    rw [Nat.testBit_two_pow] at hp
    have := of_decide_eq_true hp
    subst this
    rw [val_box hk]
    exact e
  refine ⟨(List.getElem?_eq_some_iff.mp hr2).1, (List.getElem?_eq_some_iff.mp hr3).1, ⟨by simp [hb], ⟨r2, START, hr2, hs, ⟨Nat.zero_le _, ?_, one 7 _ (by omega) g7, one 4 _ (by omega) (g 4 (by omega)), one 5 _ (by omega) (g 5 (by omega)), one 6 _ (by omega) (g 6 (by omega))⟩⟩, ⟨⟨place, t, e, rfl, hr, he, ?_⟩, A.chain⟩⟩⟩
  · show pile.take (pile.length - 0) = pile
    rw [Nat.sub_zero, List.take_length]
  · exact ⟨T.le, T.base, kept_holds hb T.b t, kept_holds hb T.x4 t, kept_holds hb T.x5 t, kept_holds hb T.x6 t⟩
/-- where a caller goes on -/
theorem goes_on (G : Good rs es ls) {c d : CallD} (L : Linked rs es c d) : ∃ r o, rs[c.1]? = some r ∧ es[c.1]? = some (some o) ∧ Tells (bxKept c.2.1) c.2.2 o d.1 d.2.1 d.2.2 := by
  obtain ⟨i, t, e, hc, hr, he, T⟩ := L.at_
  obtain ⟨_, fol, _⟩ := G.row i _ e hr he
  obtain ⟨o, h2, ho, hh2, s⟩ := fol (i + 1) (List.mem_singleton.mpr rfl)
  cases hh2
  rw [hc]
  obtain ⟨r2, hr2⟩ := row_of G ho
  exact ⟨r2, o, hr2, ho, T.sub s⟩
/-- boxes that hold the kept ones -/
theorem tells_kept {k : K3} {e : Ent} {row : Nat} {k2 : K3} {low : List Nat} (T : Tells (bxKept k) pile e row k2 low) (h4 : bs[4]? = some k.1) (h5 : bs[5]? = some k.2.1) (h6 : bs[6]? = some k.2.2) : Tells (bxOf bs) pile e row k2 low := by
  have up : ∀ s v, HoldsN (bxKept k) pile e.h s v → HoldsN (bxOf bs) pile e.h s v := fun s v q p hp => by
    have z := q p hp
    by_cases l : p < 8
    · rw [val_box l] at z ⊢
      unfold bxKept at z
      by_cases e4 : p = 4
      · subst e4
        rw [if_pos rfl] at z
        exact h4.trans z
      · rw [if_neg e4] at z
        by_cases e5 : p = 5
        · subst e5
          rw [if_pos rfl] at z
          exact h5.trans z
        · rw [if_neg e5] at z
          by_cases e6 : p = 6
          · subst e6
            rw [if_pos rfl] at z
            exact h6.trans z
          · rw [if_neg e6] at z
            cases z
    · obtain ⟨z1, z2⟩ := val_cell l z
      exact cell_val l z1 z2
  exact ⟨T.le, T.base, up _ _ T.b, up _ _ T.x4, up _ _ T.x5, up _ _ T.x6⟩
theorem at_back (G : Good rs es ls) (A : At rs es bot place bs pile calls) {b : Nat} (hbk : b ≤ 7) (hr : rs[place]? = some (.back b)) :
    bs[b]? = some (topOf bot calls).1 ∧ bs[4]? = some (topOf bot calls).2.1.1 ∧ bs[5]? = some (topOf bot calls).2.1.2.1 ∧ bs[6]? = some (topOf bot calls).2.1.2.2 ∧ pile = (topOf bot calls).2.2 ∧
      ∀ c r, calls = c :: r → c.1 < rs.length ∧ At rs es bot c.1 bs pile r := by
  obtain ⟨r', e, hr', he, T⟩ := A.ent
  rw [hr] at hr'
  cases hr'
  obtain ⟨⟨_, _, own⟩, _, _⟩ := G.row place _ e hr he
  obtain ⟨h0, hb, h4, h5, h6⟩ := own b rfl
  have q0 := T.b b hb
  have q4 := T.x4 4 h4
  have q5 := T.x5 5 h5
  have q6 := T.x6 6 h6
  rw [val_box (by omega)] at q0 q4 q5 q6
  have hp : pile = (topOf bot calls).2.2 := by
    have z := T.base
    rw [h0, Nat.sub_zero, List.take_length] at z
    exact z
  refine ⟨q0, q4, q5, q6, hp, fun c r hc => ?_⟩
  subst hc
  obtain ⟨L, C⟩ := A.chain
  obtain ⟨r2, o, hr2, ho, T2⟩ := goes_on G L
  refine ⟨(List.getElem?_eq_some_iff.mp hr2).1, ⟨A.len, ⟨r2, o, hr2, ho, ?_⟩, C⟩⟩
  rw [hp]
  exact tells_kept T2 q4 q5 q6
end
end Fb

set_option Elab.async false
set_option linter.all false
set_option maxRecDepth 100000
set_option maxHeartbeats 4000000
namespace Fb
/-! ### what the reader reads -/
/-- the value at the lowest place of a set, the pile's first cells being so many -/
def LowVal (bx : Nat → Option Nat) (pile : List Nat) (length h s v : Nat) : Prop := ∃ p, s.testBit p = true ∧ s - (s &&& (s - 1)) = 2 ^ p ∧ (if p < 8 then bx p = some v else p - 8 < h ∧ pile[length - h + (p - 8)]? = some v)
inductive ReadsN (es : List (Option Ent)) (pile : List Nat) : Nat → (Nat → Option Nat) → Nat → List (Nat × K3 × Nat) → Prop
  | home {bx : Nat → Option Nat} {length : Nat} : ReadsN es pile es.length bx length []
  | more {row : Nat} {bx : Nat → Option Nat} {length : Nat} {e : Ent} {r k4 k5 k6 : Nat} {l : List (Nat × K3 × Nat)} : row ≠ es.length → es[row]? = some (some e) → e.h ≤ length → (0 < e.b ∧ 0 < e.x4 ∧ 0 < e.x5 ∧ 0 < e.x6) →
      LowVal bx pile length e.h e.b r → LowVal bx pile length e.h e.x4 k4 → LowVal bx pile length e.h e.x5 k5 → LowVal bx pile length e.h e.x6 k6 →
      ReadsN es pile r (bxKept (k4, k5, k6)) (length - e.h) l → ReadsN es pile row bx length ((r, (k4, k5, k6), length - e.h) :: l)
theorem low_of {bx : Nat → Option Nat} {W : List Nat} {n h s v : Nat} (hs : 0 < s) (hn : n ≤ W.length) (hh : h ≤ n) (q : HoldsN bx (W.take n) h s v) : LowVal bx W n h s v := by
  obtain ⟨p, hp, e⟩ := lowest s hs
  refine ⟨p, hp, e, ?_⟩
  have z := q p hp
  by_cases l : p < 8
  · rw [val_box l] at z
    rw [if_pos l]
    exact z
  · rw [if_neg l]
    obtain ⟨z1, z2⟩ := val_cell l z
    rw [List.length_take, Nat.min_eq_left hn, List.getElem?_take_of_lt (by omega)] at z2
    exact ⟨z1, z2⟩
def told (c : CallD) : Nat × K3 × Nat := (c.1, c.2.1, c.2.2.length)
section
variable {rs : List RowD} {es : List (Option Ent)} {ls : List (Nat × Nat)} {bot : CallD}
theorem reads_all (G : Good rs es ls) (hb1 : bot.1 = rs.length) (hb2 : bot.2.2 = []) (W : List Nat) : ∀ (calls : List CallD) (row : Nat) (bx : Nat → Option Nat) (n : Nat) (r : RowD) (e : Ent), rs[row]? = some r → es[row]? = some (some e) → n ≤ W.length →
    Tells bx (W.take n) e (topOf bot calls).1 (topOf bot calls).2.1 (topOf bot calls).2.2 → Chain rs es bot calls → ReadsN es W row bx n ((calls ++ [bot]).map told) := by
  intro calls
  induction calls with
  | nil =>
    intro row bx n r e hr he hn T _
    obtain ⟨⟨⟨_, i1, i2, i3, i4⟩, _, _⟩, _, _⟩ := G.row row r e hr he
    have hle := T.le
    rw [List.length_take, Nat.min_eq_left hn] at hle
    have hbase : (W.take n).take ((W.take n).length - e.h) = bot.2.2 := T.base
    rw [hb2, List.length_take, Nat.min_eq_left hn] at hbase
    have h0 : n - e.h = 0 := by
      have z := congrArg List.length hbase
      rw [List.length_take, List.length_take, Nat.min_eq_left hn, Nat.min_eq_left (by omega)] at z
      exact z
    have hlt := (List.getElem?_eq_some_iff.mp he).1
    have z := ReadsN.more (es := es) (pile := W) (bx := bx) (l := []) (Nat.ne_of_lt hlt) he hle ⟨i1.1, i2.1, i3.1, i4.1⟩ (low_of i1.1 hn hle T.b) (low_of i2.1 hn hle T.x4) (low_of i3.1 hn hle T.x5) (low_of i4.1 hn hle T.x6) (by
      have e1 : (topOf bot []).1 = es.length := by rw [G.len]; exact hb1
      rw [e1]
      exact .home)
    rw [h0] at z
    have e2 : ([] ++ [bot]).map told = [((topOf bot []).1, ((topOf bot []).2.1.1, (topOf bot []).2.1.2.1, (topOf bot []).2.1.2.2), 0)] := by
      show [(bot.1, bot.2.1, bot.2.2.length)] = _
      rw [hb2]
      rfl
    rw [e2]
    exact z
  | cons c cs ih =>
    intro row bx n r e hr he hn T C
    obtain ⟨⟨⟨_, i1, i2, i3, i4⟩, _, _⟩, _, _⟩ := G.row row r e hr he
    have hle := T.le
    rw [List.length_take, Nat.min_eq_left hn] at hle
    have hbase : (W.take n).take ((W.take n).length - e.h) = c.2.2 := T.base
    rw [List.length_take, Nat.min_eq_left hn, List.take_take, Nat.min_eq_left (by omega)] at hbase
    have hlen : c.2.2.length = n - e.h := by rw [← hbase, List.length_take]; omega
    have hlt := (List.getElem?_eq_some_iff.mp he).1
    obtain ⟨L, C2⟩ := C
    obtain ⟨r2, o, hr2, ho, T2⟩ := goes_on G L
    have rest := ih c.1 (bxKept c.2.1) (n - e.h) r2 o hr2 ho (by omega) (by rw [hbase]; exact T2) C2
    have z := ReadsN.more (es := es) (pile := W) (bx := bx) (Nat.ne_of_lt hlt) he hle ⟨i1.1, i2.1, i3.1, i4.1⟩ (low_of i1.1 hn hle T.b) (low_of i2.1 hn hle T.x4) (low_of i3.1 hn hle T.x5) (low_of i4.1 hn hle T.x6) rest
    rw [← hlen] at z
    exact z
/-! ### where a drop lands -/
theorem landOf_mem {ls : List (Nat × Nat)} {i j : Nat} (h : landOf ls i = some j) : (i, j) ∈ ls := by
  unfold landOf at h
  cases e : ls.find? fun q => decide (q.1 = i) with
  | none =>
    rw [e] at h
    cases h
  | some q =>
    rw [e] at h
    have h1 := List.find?_some e
    have h2 := List.mem_of_find?_eq_some e
    simp only [Option.map_some, Option.some.injEq] at h
    simp only [decide_eq_true_eq] at h1
    obtain ⟨a, b⟩ := q
    simp only at h h1
    subst h h1
    exact h2
def firstLand (ls : List (Nat × Nat)) : List CallD → Option (Nat × Nat)
  | [] => none
  | c :: r => match landOf ls (c.1 - 1) with
    | some j => some (0, j)
    | none => (firstLand ls r).map fun q => (q.1 + 1, q.2)
theorem chain_at {k : Nat} {c : CallD} : ∀ {calls : List CallD}, Chain rs es bot calls → calls[k]? = some c → Linked rs es c (topOf bot (calls.drop (k + 1))) ∧ Chain rs es bot (calls.drop (k + 1)) := by
  induction k with
  | zero =>
    intro calls C h
    cases calls with
    | nil => simp at h
    | cons d r =>
      simp at h
      subst h
      exact C
  | succ k ih =>
    intro calls C h
    cases calls with
    | nil => simp at h
    | cons d r => exact ih C.2 (by simpa using h)
theorem chain_pile {k : Nat} {c : CallD} : ∀ {calls : List CallD} {pile : List Nat}, Chain rs es bot calls → (∃ m, (topOf bot calls).2.2 = pile.take m) → calls[k]? = some c → ∃ m, c.2.2 = pile.take m := by
  induction k with
  | zero =>
    intro calls pile C hp h
    cases calls with
    | nil => simp at h
    | cons d r =>
      simp at h
      subst h
      exact hp
  | succ k ih =>
    intro calls pile C hp h
    cases calls with
    | nil => simp at h
    | cons d r =>
      obtain ⟨m, em⟩ := hp
      have em : d.2.2 = pile.take m := em
      obtain ⟨⟨_, t, e, _, _, _, T⟩, C2⟩ := (show Linked rs es d (topOf bot r) ∧ Chain rs es bot r from C)
      refine ih C2 ⟨min (d.2.2.length - (behindN (.call t) e e.h).h) m, ?_⟩ (by simpa using h)
      rw [← T.base, em, List.take_take]
theorem firstLand_at {k j : Nat} : ∀ {calls : List CallD}, firstLand ls calls = some (k, j) → ∃ c, calls[k]? = some c ∧ landOf ls (c.1 - 1) = some j := by
  intro calls
  induction calls generalizing k with
  | nil => intro h; cases h
  | cons d r ih =>
    intro h
    unfold firstLand at h
    cases e : landOf ls (d.1 - 1) with
    | some j' =>
      rw [e] at h
      cases h
      exact ⟨d, rfl, e⟩
    | none =>
      rw [e] at h
      cases e2 : firstLand ls r with
      | none =>
        rw [e2] at h
        cases h
      | some q =>
        rw [e2] at h
        obtain ⟨k', j'⟩ := q
        cases h
        obtain ⟨c, h1, h2⟩ := ih e2
        exact ⟨c, by simpa using h1, h2⟩
def landBoxes (bs : List Nat) (b : Nat) (k : K3) : List Nat := (((bs.set 0 (bs.getD b 0)).set 4 k.1).set 5 k.2.1).set 6 k.2.2
theorem at_drop (G : Good rs es ls) {place : Nat} {bs pile : List Nat} {calls : List CallD} (A : At rs es bot place bs pile calls) (b : Nat) {k j : Nat} (hf : firstLand ls calls = some (k, j)) :
    ∃ c, calls[k]? = some c ∧ landOf ls (c.1 - 1) = some j ∧ j < rs.length ∧ c.2.2 = pile.take c.2.2.length ∧ At rs es bot j (landBoxes bs b c.2.1) c.2.2 (calls.drop (k + 1)) := by
  obtain ⟨c, hc, hl⟩ := firstLand_at hf
  obtain ⟨_, e0, _, _, T0⟩ := A.ent
  obtain ⟨L, C⟩ := chain_at A.chain hc
  obtain ⟨m, em⟩ := chain_pile A.chain ⟨_, T0.base.symm⟩ hc
  obtain ⟨i, t, e, hi, hr, he, T⟩ := L.at_
  have hland := (G.land i j (by
    have e1 : c.1 - 1 = i := by omega
    rw [← e1]
    exact hl)).2 _ e hr he
  obtain ⟨o, h2, ho, hh2, s⟩ := hland
  cases hh2
  obtain ⟨r2, hr2⟩ := row_of G ho
  have hb := A.len
  have lb : (landBoxes bs b c.2.1).length = 8 := by simp [landBoxes, hb]
  refine ⟨c, hc, hl, (List.getElem?_eq_some_iff.mp hr2).1, ?_, ⟨lb, ⟨r2, o, hr2, ho, tells_kept (T.sub s) ?_ ?_ ?_⟩, C⟩⟩
  · rw [em, List.length_take]
    by_cases q : m ≤ pile.length
    · rw [Nat.min_eq_left q]
    · rw [Nat.min_eq_right (by omega), List.take_of_length_le (by omega), List.take_length]
  · unfold landBoxes
    rw [List.getElem?_set_ne (by omega), List.getElem?_set_ne (by omega), List.getElem?_set_self (by simp [hb])]
  · unfold landBoxes
    rw [List.getElem?_set_ne (by omega), List.getElem?_set_self (by simp [hb])]
  · unfold landBoxes
    rw [List.getElem?_set_self (by simp [hb])]
end
end Fb

set_option Elab.async false
set_option linter.all false
set_option maxRecDepth 100000
set_option maxHeartbeats 4000000
/-! what the top has written, fact by fact -/
namespace Fb
open PySem PySem.Spec PyProof.Rows L2
open He (ga ma)
structure Tx (K : PySem.W.Frag) (mg : Str → Option Value) : Prop where
  h : ∃ h : Heap, K.In h ∧ h.Ns mainGlobals mg
  c : SaysF K
section
variable {K : PySem.W.Frag} {mg : Str → Option Value}
theorem bb {a b : Bool} (h : (a && b) = true) : a = true ∧ b = true := Bool.and_eq_true_iff.mp h
theorem Tx.fr_len (T : Tx K mg) : mg "len" = none := by
  obtain ⟨h, X, G⟩ := T.h
  exact He.free_ok X G (T.c.1.fact 0 (f := .free "len") rfl)
theorem Tx.fr_range (T : Tx K mg) : mg "range" = none := by
  obtain ⟨h, X, G⟩ := T.h
  exact He.free_ok X G (T.c.1.fact 1 (f := .free "range") rfl)
theorem Tx.fr_list (T : Tx K mg) : mg "list" = none := by
  obtain ⟨h, X, G⟩ := T.h
  exact He.free_ok X G (T.c.1.fact 2 (f := .free "list") rfl)
theorem Tx.fr_tuple (T : Tx K mg) : mg "tuple" = none := by
  obtain ⟨h, X, G⟩ := T.h
  exact He.free_ok X G (T.c.1.fact 3 (f := .free "tuple") rfl)
theorem Tx.fr_dict (T : Tx K mg) : mg "dict" = none := by
  obtain ⟨h, X, G⟩ := T.h
  exact He.free_ok X G (T.c.1.fact 4 (f := .free "dict") rfl)
theorem Tx.fr_isinstance (T : Tx K mg) : mg "isinstance" = none := by
  obtain ⟨h, X, G⟩ := T.h
  exact He.free_ok X G (T.c.1.fact 5 (f := .free "isinstance") rfl)
theorem Tx.fr_enumerate (T : Tx K mg) : mg "enumerate" = none := by
  obtain ⟨h, X, G⟩ := T.h
  exact He.free_ok X G (T.c.1.fact 6 (f := .free "enumerate") rfl)
theorem Tx.fr_zip (T : Tx K mg) : mg "zip" = none := by
  obtain ⟨h, X, G⟩ := T.h
  exact He.free_ok X G (T.c.1.fact 7 (f := .free "zip") rfl)
theorem Tx.fr_all (T : Tx K mg) : mg "all" = none := by
  obtain ⟨h, X, G⟩ := T.h
  exact He.free_ok X G (T.c.1.fact 8 (f := .free "all") rfl)
theorem Tx.fr_sorted (T : Tx K mg) : mg "sorted" = none := by
  obtain ⟨h, X, G⟩ := T.h
  exact He.free_ok X G (T.c.1.fact 9 (f := .free "sorted") rfl)
theorem Tx.fr_int (T : Tx K mg) : mg "int" = none := by
  obtain ⟨h, X, G⟩ := T.h
  exact He.free_ok X G (T.c.1.fact 10 (f := .free "int") rfl)
theorem Tx.fr_max (T : Tx K mg) : mg "max" = none := by
  obtain ⟨h, X, G⟩ := T.h
  exact He.free_ok X G (T.c.1.fact 11 (f := .free "max") rfl)
theorem Tx.ig_BOXES_tables (T : Tx K mg) : ∃ t, mg "BOXES_tables" = some (.int 8 t) := by
  obtain ⟨h, X, G⟩ := T.h
  exact He.int_ok X G (T.c.1.fact 12 (f := .int "BOXES_tables" 8) rfl)
theorem Tx.ig_MOST (T : Tx K mg) : ∃ t, mg "MOST" = some (.int 5000 t) := by
  obtain ⟨h, X, G⟩ := T.h
  exact He.int_ok X G (T.c.1.fact 13 (f := .int "MOST" 5000) rfl)
theorem Tx.ig_WORD (T : Tx K mg) : ∃ t, mg "WORD" = some (.int 4294967296 t) := by
  obtain ⟨h, X, G⟩ := T.h
  exact He.int_ok X G (T.c.1.fact 14 (f := .int "WORD" 4294967296) rfl)
theorem Tx.ig_BOXES_rows (T : Tx K mg) : ∃ t, mg "BOXES_rows" = some (.int 8 t) := by
  obtain ⟨h, X, G⟩ := T.h
  exact He.int_ok X G (T.c.1.fact 15 (f := .int "BOXES_rows" 8) rfl)
theorem Tx.ig_MOST_CELLS (T : Tx K mg) : ∃ t, mg "MOST_CELLS" = some (.int 4000 t) := by
  obtain ⟨h, X, G⟩ := T.h
  exact He.int_ok X G (T.c.1.fact 16 (f := .int "MOST_CELLS" 4000) rfl)
theorem Tx.ig_MOST_ROWS (T : Tx K mg) : ∃ t, mg "MOST_ROWS" = some (.int 2000 t) := by
  obtain ⟨h, X, G⟩ := T.h
  exact He.int_ok X G (T.c.1.fact 17 (f := .int "MOST_ROWS" 2000) rfl)
theorem Tx.ig_LINK (T : Tx K mg) : ∃ t, mg "LINK" = some (.int 7 t) := by
  obtain ⟨h, X, G⟩ := T.h
  exact He.int_ok X G (T.c.1.fact 18 (f := .int "LINK" 7) rfl)
theorem Tx.ig_KEPT (T : Tx K mg) : ∃ t, mg "KEPT" = some (.int 112 t) := by
  obtain ⟨h, X, G⟩ := T.h
  exact He.int_ok X G (T.c.1.fact 19 (f := .int "KEPT" 112) rfl)
theorem Tx.ig_DEEPEST (T : Tx K mg) : ∃ t, mg "DEEPEST" = some (.int 4000 t) := by
  obtain ⟨h, X, G⟩ := T.h
  exact He.int_ok X G (T.c.1.fact 20 (f := .int "DEEPEST" 4000) rfl)
theorem Tx.gl_lying (T : Tx K mg) : mg "lying" = some (.ref (ga K "lying")) := by
  obtain ⟨h, X, G⟩ := T.h
  exact He.glo_ok X G (T.c.1.fact 21 (f := .glo "lying") rfl)
theorem Tx.gl_one_up (T : Tx K mg) : mg "one_up" = some (.ref (ga K "one_up")) := by
  obtain ⟨h, X, G⟩ := T.h
  exact He.glo_ok X G (T.c.1.fact 22 (f := .glo "one_up") rfl)
theorem Tx.gl_callers (T : Tx K mg) : mg "callers" = some (.ref (ga K "callers")) := by
  obtain ⟨h, X, G⟩ := T.h
  exact He.glo_ok X G (T.c.1.fact 23 (f := .glo "callers") rfl)
theorem Tx.gl_within (T : Tx K mg) : mg "within" = some (.ref (ga K "within")) := by
  obtain ⟨h, X, G⟩ := T.h
  exact He.glo_ok X G (T.c.1.fact 24 (f := .glo "within") rfl)
theorem Tx.gl_with_value (T : Tx K mg) : mg "with_value" = some (.ref (ga K "with_value")) := by
  obtain ⟨h, X, G⟩ := T.h
  exact He.glo_ok X G (T.c.1.fact 25 (f := .glo "with_value") rfl)
theorem Tx.gl_without (T : Tx K mg) : mg "without" = some (.ref (ga K "without")) := by
  obtain ⟨h, X, G⟩ := T.h
  exact He.glo_ok X G (T.c.1.fact 26 (f := .glo "without") rfl)
theorem Tx.gl_followed (T : Tx K mg) : mg "followed" = some (.ref (ga K "followed")) := by
  obtain ⟨h, X, G⟩ := T.h
  exact He.glo_ok X G (T.c.1.fact 27 (f := .glo "followed") rfl)
theorem Tx.gl_bit_of (T : Tx K mg) : mg "bit_of" = some (.ref (ga K "bit_of")) := by
  obtain ⟨h, X, G⟩ := T.h
  exact He.glo_ok X G (T.c.1.fact 28 (f := .glo "bit_of") rfl)
theorem Tx.gl_is_set (T : Tx K mg) : mg "is_set" = some (.ref (ga K "is_set")) := by
  obtain ⟨h, X, G⟩ := T.h
  exact He.glo_ok X G (T.c.1.fact 29 (f := .glo "is_set") rfl)
theorem Tx.gl_is_entry (T : Tx K mg) : mg "is_entry" = some (.ref (ga K "is_entry")) := by
  obtain ⟨h, X, G⟩ := T.h
  exact He.glo_ok X G (T.c.1.fact 30 (f := .glo "is_entry") rfl)
theorem Tx.gl_may_go_back (T : Tx K mg) : mg "may_go_back" = some (.ref (ga K "may_go_back")) := by
  obtain ⟨h, X, G⟩ := T.h
  exact He.glo_ok X G (T.c.1.fact 31 (f := .glo "may_go_back") rfl)
theorem Tx.gl_own_complaint (T : Tx K mg) : mg "own_complaint" = some (.ref (ga K "own_complaint")) := by
  obtain ⟨h, X, G⟩ := T.h
  exact He.glo_ok X G (T.c.1.fact 32 (f := .glo "own_complaint") rfl)
theorem Tx.gl_unlike (T : Tx K mg) : mg "unlike" = some (.ref (ga K "unlike")) := by
  obtain ⟨h, X, G⟩ := T.h
  exact He.glo_ok X G (T.c.1.fact 33 (f := .glo "unlike") rfl)
theorem Tx.gl_onward (T : Tx K mg) : mg "onward" = some (.ref (ga K "onward")) := by
  obtain ⟨h, X, G⟩ := T.h
  exact He.glo_ok X G (T.c.1.fact 34 (f := .glo "onward") rfl)
theorem Tx.gl_landed (T : Tx K mg) : mg "landed" = some (.ref (ga K "landed")) := by
  obtain ⟨h, X, G⟩ := T.h
  exact He.glo_ok X G (T.c.1.fact 35 (f := .glo "landed") rfl)
theorem Tx.gl_checked (T : Tx K mg) : mg "checked" = some (.ref (ga K "checked")) := by
  obtain ⟨h, X, G⟩ := T.h
  exact He.glo_ok X G (T.c.1.fact 36 (f := .glo "checked") rfl)
theorem Tx.gl_entry_behind (T : Tx K mg) : mg "entry_behind" = some (.ref (ga K "entry_behind")) := by
  obtain ⟨h, X, G⟩ := T.h
  exact He.glo_ok X G (T.c.1.fact 37 (f := .glo "entry_behind") rfl)
theorem Tx.gl_entry_of_both (T : Tx K mg) : mg "entry_of_both" = some (.ref (ga K "entry_of_both")) := by
  obtain ⟨h, X, G⟩ := T.h
  exact He.glo_ok X G (T.c.1.fact 38 (f := .glo "entry_of_both") rfl)
theorem Tx.gl_ways_from (T : Tx K mg) : mg "ways_from" = some (.ref (ga K "ways_from")) := by
  obtain ⟨h, X, G⟩ := T.h
  exact He.glo_ok X G (T.c.1.fact 39 (f := .glo "ways_from") rfl)
theorem Tx.gl_guess (T : Tx K mg) : mg "guess" = some (.ref (ga K "guess")) := by
  obtain ⟨h, X, G⟩ := T.h
  exact He.glo_ok X G (T.c.1.fact 40 (f := .glo "guess") rfl)
theorem Tx.gl_law_cell_at (T : Tx K mg) : mg "_law_cell_at" = some (.ref (ga K "_law_cell_at")) := by
  obtain ⟨h, X, G⟩ := T.h
  exact He.glo_ok X G (T.c.1.fact 41 (f := .glo "_law_cell_at") rfl)
theorem Tx.gl_law_value (T : Tx K mg) : mg "_law_value" = some (.ref (ga K "_law_value")) := by
  obtain ⟨h, X, G⟩ := T.h
  exact He.glo_ok X G (T.c.1.fact 42 (f := .glo "_law_value") rfl)
theorem Tx.gl_law_row (T : Tx K mg) : mg "_law_row" = some (.ref (ga K "_law_row")) := by
  obtain ⟨h, X, G⟩ := T.h
  exact He.glo_ok X G (T.c.1.fact 43 (f := .glo "_law_row") rfl)
theorem Tx.gl_law_body (T : Tx K mg) : mg "_law_body" = some (.ref (ga K "_law_body")) := by
  obtain ⟨h, X, G⟩ := T.h
  exact He.glo_ok X G (T.c.1.fact 44 (f := .glo "_law_body") rfl)
theorem Tx.gl_law_function (T : Tx K mg) : mg "_law_function" = some (.ref (ga K "_law_function")) := by
  obtain ⟨h, X, G⟩ := T.h
  exact He.glo_ok X G (T.c.1.fact 45 (f := .glo "_law_function") rfl)
theorem Tx.gl_law_code (T : Tx K mg) : mg "_law_code" = some (.ref (ga K "_law_code")) := by
  obtain ⟨h, X, G⟩ := T.h
  exact He.glo_ok X G (T.c.1.fact 46 (f := .glo "_law_code") rfl)
theorem Tx.gl_law_any_row (T : Tx K mg) : mg "_law_any_row" = some (.ref (ga K "_law_any_row")) := by
  obtain ⟨h, X, G⟩ := T.h
  exact He.glo_ok X G (T.c.1.fact 47 (f := .glo "_law_any_row") rfl)
theorem Tx.gl_law_any_code (T : Tx K mg) : mg "_law_any_code" = some (.ref (ga K "_law_any_code")) := by
  obtain ⟨h, X, G⟩ := T.h
  exact He.glo_ok X G (T.c.1.fact 48 (f := .glo "_law_any_code") rfl)
theorem Tx.gl_law_table (T : Tx K mg) : mg "_law_table" = some (.ref (ga K "_law_table")) := by
  obtain ⟨h, X, G⟩ := T.h
  exact He.glo_ok X G (T.c.1.fact 49 (f := .glo "_law_table") rfl)
theorem Tx.gl_law_landing (T : Tx K mg) : mg "_law_landing" = some (.ref (ga K "_law_landing")) := by
  obtain ⟨h, X, G⟩ := T.h
  exact He.glo_ok X G (T.c.1.fact 50 (f := .glo "_law_landing") rfl)
theorem Tx.gl_law_as_then (T : Tx K mg) : mg "_law_as_then" = some (.ref (ga K "_law_as_then")) := by
  obtain ⟨h, X, G⟩ := T.h
  exact He.glo_ok X G (T.c.1.fact 51 (f := .glo "_law_as_then") rfl)
theorem Tx.gl_law_landed (T : Tx K mg) : mg "_law_landed" = some (.ref (ga K "_law_landed")) := by
  obtain ⟨h, X, G⟩ := T.h
  exact He.glo_ok X G (T.c.1.fact 52 (f := .glo "_law_landed") rfl)
theorem Tx.gl_law_back (T : Tx K mg) : mg "_law_back" = some (.ref (ga K "_law_back")) := by
  obtain ⟨h, X, G⟩ := T.h
  exact He.glo_ok X G (T.c.1.fact 53 (f := .glo "_law_back") rfl)
theorem Tx.gl_law (T : Tx K mg) : mg "law" = some (.ref (ga K "law")) := by
  obtain ⟨h, X, G⟩ := T.h
  exact He.glo_ok X G (T.c.1.fact 54 (f := .glo "law") rfl)
theorem Tx.gl_Set (T : Tx K mg) : mg "Set" = some (.ref (ga K "Set")) := by
  obtain ⟨h, X, G⟩ := T.h
  exact He.glo_ok X G (T.c.1.fact 55 (f := .glo "Set") rfl)
theorem Tx.gl_Copy (T : Tx K mg) : mg "Copy" = some (.ref (ga K "Copy")) := by
  obtain ⟨h, X, G⟩ := T.h
  exact He.glo_ok X G (T.c.1.fact 56 (f := .glo "Copy") rfl)
theorem Tx.gl_Add (T : Tx K mg) : mg "Add" = some (.ref (ga K "Add")) := by
  obtain ⟨h, X, G⟩ := T.h
  exact He.glo_ok X G (T.c.1.fact 57 (f := .glo "Add") rfl)
theorem Tx.gl_Grow (T : Tx K mg) : mg "Grow" = some (.ref (ga K "Grow")) := by
  obtain ⟨h, X, G⟩ := T.h
  exact He.glo_ok X G (T.c.1.fact 58 (f := .glo "Grow") rfl)
theorem Tx.gl_Shrink (T : Tx K mg) : mg "Shrink" = some (.ref (ga K "Shrink")) := by
  obtain ⟨h, X, G⟩ := T.h
  exact He.glo_ok X G (T.c.1.fact 59 (f := .glo "Shrink") rfl)
theorem Tx.gl_Put (T : Tx K mg) : mg "Put" = some (.ref (ga K "Put")) := by
  obtain ⟨h, X, G⟩ := T.h
  exact He.glo_ok X G (T.c.1.fact 60 (f := .glo "Put") rfl)
theorem Tx.gl_Get (T : Tx K mg) : mg "Get" = some (.ref (ga K "Get")) := by
  obtain ⟨h, X, G⟩ := T.h
  exact He.glo_ok X G (T.c.1.fact 61 (f := .glo "Get") rfl)
theorem Tx.gl_Jump (T : Tx K mg) : mg "Jump" = some (.ref (ga K "Jump")) := by
  obtain ⟨h, X, G⟩ := T.h
  exact He.glo_ok X G (T.c.1.fact 62 (f := .glo "Jump") rfl)
theorem Tx.gl_Branch (T : Tx K mg) : mg "Branch" = some (.ref (ga K "Branch")) := by
  obtain ⟨h, X, G⟩ := T.h
  exact He.glo_ok X G (T.c.1.fact 63 (f := .glo "Branch") rfl)
theorem Tx.gl_Call (T : Tx K mg) : mg "Call" = some (.ref (ga K "Call")) := by
  obtain ⟨h, X, G⟩ := T.h
  exact He.glo_ok X G (T.c.1.fact 64 (f := .glo "Call") rfl)
theorem Tx.gl_Back (T : Tx K mg) : mg "Back" = some (.ref (ga K "Back")) := by
  obtain ⟨h, X, G⟩ := T.h
  exact He.glo_ok X G (T.c.1.fact 65 (f := .glo "Back") rfl)
theorem Tx.gl_Drop (T : Tx K mg) : mg "Drop" = some (.ref (ga K "Drop")) := by
  obtain ⟨h, X, G⟩ := T.h
  exact He.glo_ok X G (T.c.1.fact 66 (f := .glo "Drop") rfl)
theorem Tx.gl_Table (T : Tx K mg) : mg "Table" = some (.ref (ga K "Table")) := by
  obtain ⟨h, X, G⟩ := T.h
  exact He.glo_ok X G (T.c.1.fact 67 (f := .glo "Table") rfl)
theorem Tx.gl_Machine (T : Tx K mg) : mg "Machine" = some (.ref (ga K "Machine")) := by
  obtain ⟨h, X, G⟩ := T.h
  exact He.glo_ok X G (T.c.1.fact 68 (f := .glo "Machine") rfl)
theorem Tx.gl_Fill (T : Tx K mg) : mg "Fill" = some (.ref (ga K "Fill")) := by
  obtain ⟨h, X, G⟩ := T.h
  exact He.glo_ok X G (T.c.1.fact 69 (f := .glo "Fill") rfl)
theorem Tx.gl_START (T : Tx K mg) : mg "START" = some (.ref (ga K "START")) := by
  obtain ⟨h, X, G⟩ := T.h
  exact He.glo_ok X G (T.c.1.fact 70 (f := .glo "START") rfl)
theorem Tx.gl_NoTable (T : Tx K mg) : mg "NoTable" = some (.ref (ga K "NoTable")) := by
  obtain ⟨h, X, G⟩ := T.h
  exact He.glo_ok X G (T.c.1.fact 71 (f := .glo "NoTable") rfl)
theorem Tx.gl_Astray (T : Tx K mg) : mg "Astray" = some (.ref (ga K "Astray")) := by
  obtain ⟨h, X, G⟩ := T.h
  exact He.glo_ok X G (T.c.1.fact 72 (f := .glo "Astray") rfl)
theorem Tx.cl_Set (T : Tx K mg) : Cls K (ga K "Set") := He.cls_ok (T.c.1.fact 73 (f := .cls "Set") rfl)
theorem Tx.mk_Set (T : Tx K mg) : Mk K (ga K "Set") (ma K (ga K "Set") "__init__") := He.mkr_ok (T.c.1.fact 74 (f := .mkr "Set") rfl)
theorem Tx.no_Set_box (T : Tx K mg) : NoAttr K (ga K "Set") "box" := He.noat_ok (T.c.1.fact 75 (f := .noat "Set" "box") rfl)
theorem Tx.no_Set_number (T : Tx K mg) : NoAttr K (ga K "Set") "number" := He.noat_ok (T.c.1.fact 76 (f := .noat "Set" "number") rfl)
theorem Tx.cl_Copy (T : Tx K mg) : Cls K (ga K "Copy") := He.cls_ok (T.c.1.fact 77 (f := .cls "Copy") rfl)
theorem Tx.mk_Copy (T : Tx K mg) : Mk K (ga K "Copy") (ma K (ga K "Copy") "__init__") := He.mkr_ok (T.c.1.fact 78 (f := .mkr "Copy") rfl)
theorem Tx.no_Copy_box (T : Tx K mg) : NoAttr K (ga K "Copy") "box" := He.noat_ok (T.c.1.fact 79 (f := .noat "Copy" "box") rfl)
theorem Tx.no_Copy_one (T : Tx K mg) : NoAttr K (ga K "Copy") "one" := He.noat_ok (T.c.1.fact 80 (f := .noat "Copy" "one") rfl)
theorem Tx.cl_Add (T : Tx K mg) : Cls K (ga K "Add") := He.cls_ok (T.c.1.fact 81 (f := .cls "Add") rfl)
theorem Tx.mk_Add (T : Tx K mg) : Mk K (ga K "Add") (ma K (ga K "Add") "__init__") := He.mkr_ok (T.c.1.fact 82 (f := .mkr "Add") rfl)
theorem Tx.no_Add_box (T : Tx K mg) : NoAttr K (ga K "Add") "box" := He.noat_ok (T.c.1.fact 83 (f := .noat "Add" "box") rfl)
theorem Tx.no_Add_one (T : Tx K mg) : NoAttr K (ga K "Add") "one" := He.noat_ok (T.c.1.fact 84 (f := .noat "Add" "one") rfl)
theorem Tx.no_Add_other (T : Tx K mg) : NoAttr K (ga K "Add") "other" := He.noat_ok (T.c.1.fact 85 (f := .noat "Add" "other") rfl)
theorem Tx.cl_Grow (T : Tx K mg) : Cls K (ga K "Grow") := He.cls_ok (T.c.1.fact 86 (f := .cls "Grow") rfl)
theorem Tx.mk_Grow (T : Tx K mg) : Mk K (ga K "Grow") (ma K (ga K "Grow") "__init__") := He.mkr_ok (T.c.1.fact 87 (f := .mkr "Grow") rfl)
theorem Tx.no_Grow_many (T : Tx K mg) : NoAttr K (ga K "Grow") "many" := He.noat_ok (T.c.1.fact 88 (f := .noat "Grow" "many") rfl)
theorem Tx.cl_Shrink (T : Tx K mg) : Cls K (ga K "Shrink") := He.cls_ok (T.c.1.fact 89 (f := .cls "Shrink") rfl)
theorem Tx.mk_Shrink (T : Tx K mg) : Mk K (ga K "Shrink") (ma K (ga K "Shrink") "__init__") := He.mkr_ok (T.c.1.fact 90 (f := .mkr "Shrink") rfl)
theorem Tx.no_Shrink_many (T : Tx K mg) : NoAttr K (ga K "Shrink") "many" := He.noat_ok (T.c.1.fact 91 (f := .noat "Shrink" "many") rfl)
theorem Tx.cl_Put (T : Tx K mg) : Cls K (ga K "Put") := He.cls_ok (T.c.1.fact 92 (f := .cls "Put") rfl)
theorem Tx.mk_Put (T : Tx K mg) : Mk K (ga K "Put") (ma K (ga K "Put") "__init__") := He.mkr_ok (T.c.1.fact 93 (f := .mkr "Put") rfl)
theorem Tx.no_Put_box (T : Tx K mg) : NoAttr K (ga K "Put") "box" := He.noat_ok (T.c.1.fact 94 (f := .noat "Put" "box") rfl)
theorem Tx.no_Put_cell (T : Tx K mg) : NoAttr K (ga K "Put") "cell" := He.noat_ok (T.c.1.fact 95 (f := .noat "Put" "cell") rfl)
theorem Tx.cl_Get (T : Tx K mg) : Cls K (ga K "Get") := He.cls_ok (T.c.1.fact 96 (f := .cls "Get") rfl)
theorem Tx.mk_Get (T : Tx K mg) : Mk K (ga K "Get") (ma K (ga K "Get") "__init__") := He.mkr_ok (T.c.1.fact 97 (f := .mkr "Get") rfl)
theorem Tx.no_Get_box (T : Tx K mg) : NoAttr K (ga K "Get") "box" := He.noat_ok (T.c.1.fact 98 (f := .noat "Get" "box") rfl)
theorem Tx.no_Get_cell (T : Tx K mg) : NoAttr K (ga K "Get") "cell" := He.noat_ok (T.c.1.fact 99 (f := .noat "Get" "cell") rfl)
theorem Tx.cl_Jump (T : Tx K mg) : Cls K (ga K "Jump") := He.cls_ok (T.c.1.fact 100 (f := .cls "Jump") rfl)
theorem Tx.mk_Jump (T : Tx K mg) : Mk K (ga K "Jump") (ma K (ga K "Jump") "__init__") := He.mkr_ok (T.c.1.fact 101 (f := .mkr "Jump") rfl)
theorem Tx.no_Jump_target (T : Tx K mg) : NoAttr K (ga K "Jump") "target" := He.noat_ok (T.c.1.fact 102 (f := .noat "Jump" "target") rfl)
theorem Tx.cl_Branch (T : Tx K mg) : Cls K (ga K "Branch") := He.cls_ok (T.c.1.fact 103 (f := .cls "Branch") rfl)
theorem Tx.mk_Branch (T : Tx K mg) : Mk K (ga K "Branch") (ma K (ga K "Branch") "__init__") := He.mkr_ok (T.c.1.fact 104 (f := .mkr "Branch") rfl)
theorem Tx.no_Branch_box (T : Tx K mg) : NoAttr K (ga K "Branch") "box" := He.noat_ok (T.c.1.fact 105 (f := .noat "Branch" "box") rfl)
theorem Tx.no_Branch_target (T : Tx K mg) : NoAttr K (ga K "Branch") "target" := He.noat_ok (T.c.1.fact 106 (f := .noat "Branch" "target") rfl)
theorem Tx.cl_Call (T : Tx K mg) : Cls K (ga K "Call") := He.cls_ok (T.c.1.fact 107 (f := .cls "Call") rfl)
theorem Tx.mk_Call (T : Tx K mg) : Mk K (ga K "Call") (ma K (ga K "Call") "__init__") := He.mkr_ok (T.c.1.fact 108 (f := .mkr "Call") rfl)
theorem Tx.no_Call_target (T : Tx K mg) : NoAttr K (ga K "Call") "target" := He.noat_ok (T.c.1.fact 109 (f := .noat "Call" "target") rfl)
theorem Tx.cl_Back (T : Tx K mg) : Cls K (ga K "Back") := He.cls_ok (T.c.1.fact 110 (f := .cls "Back") rfl)
theorem Tx.mk_Back (T : Tx K mg) : Mk K (ga K "Back") (ma K (ga K "Back") "__init__") := He.mkr_ok (T.c.1.fact 111 (f := .mkr "Back") rfl)
theorem Tx.no_Back_box (T : Tx K mg) : NoAttr K (ga K "Back") "box" := He.noat_ok (T.c.1.fact 112 (f := .noat "Back" "box") rfl)
theorem Tx.cl_Drop (T : Tx K mg) : Cls K (ga K "Drop") := He.cls_ok (T.c.1.fact 113 (f := .cls "Drop") rfl)
theorem Tx.mk_Drop (T : Tx K mg) : Mk K (ga K "Drop") (ma K (ga K "Drop") "__init__") := He.mkr_ok (T.c.1.fact 114 (f := .mkr "Drop") rfl)
theorem Tx.no_Drop_box (T : Tx K mg) : NoAttr K (ga K "Drop") "box" := He.noat_ok (T.c.1.fact 115 (f := .noat "Drop" "box") rfl)
theorem Tx.cl_Table (T : Tx K mg) : Cls K (ga K "Table") := He.cls_ok (T.c.1.fact 116 (f := .cls "Table") rfl)
theorem Tx.mk_Table (T : Tx K mg) : Mk K (ga K "Table") (ma K (ga K "Table") "__init__") := He.mkr_ok (T.c.1.fact 117 (f := .mkr "Table") rfl)
theorem Tx.no_Table_entries (T : Tx K mg) : NoAttr K (ga K "Table") "entries" := He.noat_ok (T.c.1.fact 118 (f := .noat "Table" "entries") rfl)
theorem Tx.no_Table_landings (T : Tx K mg) : NoAttr K (ga K "Table") "landings" := He.noat_ok (T.c.1.fact 119 (f := .noat "Table" "landings") rfl)
theorem Tx.cl_Machine (T : Tx K mg) : Cls K (ga K "Machine") := He.cls_ok (T.c.1.fact 120 (f := .cls "Machine") rfl)
theorem Tx.mk_Machine (T : Tx K mg) : Mk K (ga K "Machine") (ma K (ga K "Machine") "__init__") := He.mkr_ok (T.c.1.fact 121 (f := .mkr "Machine") rfl)
theorem Tx.no_Machine_code (T : Tx K mg) : NoAttr K (ga K "Machine") "code" := He.noat_ok (T.c.1.fact 122 (f := .noat "Machine" "code") rfl)
theorem Tx.no_Machine_table (T : Tx K mg) : NoAttr K (ga K "Machine") "table" := He.noat_ok (T.c.1.fact 123 (f := .noat "Machine" "table") rfl)
theorem Tx.no_Machine_home (T : Tx K mg) : NoAttr K (ga K "Machine") "home" := He.noat_ok (T.c.1.fact 124 (f := .noat "Machine" "home") rfl)
theorem Tx.no_Machine_place (T : Tx K mg) : NoAttr K (ga K "Machine") "place" := He.noat_ok (T.c.1.fact 125 (f := .noat "Machine" "place") rfl)
theorem Tx.no_Machine_held (T : Tx K mg) : NoAttr K (ga K "Machine") "held" := He.noat_ok (T.c.1.fact 126 (f := .noat "Machine" "held") rfl)
theorem Tx.no_Machine_cells (T : Tx K mg) : NoAttr K (ga K "Machine") "cells" := He.noat_ok (T.c.1.fact 127 (f := .noat "Machine" "cells") rfl)
theorem Tx.no_Machine_calls (T : Tx K mg) : NoAttr K (ga K "Machine") "calls" := He.noat_ok (T.c.1.fact 128 (f := .noat "Machine" "calls") rfl)
theorem Tx.no_Machine_lost (T : Tx K mg) : NoAttr K (ga K "Machine") "lost" := He.noat_ok (T.c.1.fact 129 (f := .noat "Machine" "lost") rfl)
theorem Tx.no_Machine_state (T : Tx K mg) : NoAttr K (ga K "Machine") "state" := He.noat_ok (T.c.1.fact 130 (f := .noat "Machine" "state") rfl)
theorem Tx.me_Set_goes (T : Tx K mg) : Meth K (ga K "Set") "goes" (ma K (ga K "Set") "goes") := He.meth_ok (T.c.1.fact 131 (f := .meth "Set" "goes") rfl)
theorem Tx.me_Set_height (T : Tx K mg) : Meth K (ga K "Set") "height" (ma K (ga K "Set") "height") := He.meth_ok (T.c.1.fact 132 (f := .meth "Set" "height") rfl)
theorem Tx.me_Set_keeps (T : Tx K mg) : Meth K (ga K "Set") "keeps" (ma K (ga K "Set") "keeps") := He.meth_ok (T.c.1.fact 133 (f := .meth "Set" "keeps") rfl)
theorem Tx.me_Set_runs (T : Tx K mg) : Meth K (ga K "Set") "runs" (ma K (ga K "Set") "runs") := He.meth_ok (T.c.1.fact 134 (f := .meth "Set" "runs") rfl)
theorem Tx.me_Set_value (T : Tx K mg) : Meth K (ga K "Set") "value" (ma K (ga K "Set") "value") := He.meth_ok (T.c.1.fact 135 (f := .meth "Set" "value") rfl)
theorem Tx.me_Copy_goes (T : Tx K mg) : Meth K (ga K "Copy") "goes" (ma K (ga K "Copy") "goes") := He.meth_ok (T.c.1.fact 136 (f := .meth "Copy" "goes") rfl)
theorem Tx.me_Copy_height (T : Tx K mg) : Meth K (ga K "Copy") "height" (ma K (ga K "Copy") "height") := He.meth_ok (T.c.1.fact 137 (f := .meth "Copy" "height") rfl)
theorem Tx.me_Copy_keeps (T : Tx K mg) : Meth K (ga K "Copy") "keeps" (ma K (ga K "Copy") "keeps") := He.meth_ok (T.c.1.fact 138 (f := .meth "Copy" "keeps") rfl)
theorem Tx.me_Copy_runs (T : Tx K mg) : Meth K (ga K "Copy") "runs" (ma K (ga K "Copy") "runs") := He.meth_ok (T.c.1.fact 139 (f := .meth "Copy" "runs") rfl)
theorem Tx.me_Copy_value (T : Tx K mg) : Meth K (ga K "Copy") "value" (ma K (ga K "Copy") "value") := He.meth_ok (T.c.1.fact 140 (f := .meth "Copy" "value") rfl)
theorem Tx.me_Add_goes (T : Tx K mg) : Meth K (ga K "Add") "goes" (ma K (ga K "Add") "goes") := He.meth_ok (T.c.1.fact 141 (f := .meth "Add" "goes") rfl)
theorem Tx.me_Add_height (T : Tx K mg) : Meth K (ga K "Add") "height" (ma K (ga K "Add") "height") := He.meth_ok (T.c.1.fact 142 (f := .meth "Add" "height") rfl)
theorem Tx.me_Add_keeps (T : Tx K mg) : Meth K (ga K "Add") "keeps" (ma K (ga K "Add") "keeps") := He.meth_ok (T.c.1.fact 143 (f := .meth "Add" "keeps") rfl)
theorem Tx.me_Add_runs (T : Tx K mg) : Meth K (ga K "Add") "runs" (ma K (ga K "Add") "runs") := He.meth_ok (T.c.1.fact 144 (f := .meth "Add" "runs") rfl)
theorem Tx.me_Add_value (T : Tx K mg) : Meth K (ga K "Add") "value" (ma K (ga K "Add") "value") := He.meth_ok (T.c.1.fact 145 (f := .meth "Add" "value") rfl)
theorem Tx.me_Add_comes_to (T : Tx K mg) : Meth K (ga K "Add") "comes_to" (ma K (ga K "Add") "comes_to") := He.meth_ok (T.c.1.fact 146 (f := .meth "Add" "comes_to") rfl)
theorem Tx.me_Grow_goes (T : Tx K mg) : Meth K (ga K "Grow") "goes" (ma K (ga K "Grow") "goes") := He.meth_ok (T.c.1.fact 147 (f := .meth "Grow" "goes") rfl)
theorem Tx.me_Grow_height (T : Tx K mg) : Meth K (ga K "Grow") "height" (ma K (ga K "Grow") "height") := He.meth_ok (T.c.1.fact 148 (f := .meth "Grow" "height") rfl)
theorem Tx.me_Grow_keeps (T : Tx K mg) : Meth K (ga K "Grow") "keeps" (ma K (ga K "Grow") "keeps") := He.meth_ok (T.c.1.fact 149 (f := .meth "Grow" "keeps") rfl)
theorem Tx.me_Grow_runs (T : Tx K mg) : Meth K (ga K "Grow") "runs" (ma K (ga K "Grow") "runs") := He.meth_ok (T.c.1.fact 150 (f := .meth "Grow" "runs") rfl)
theorem Tx.me_Shrink_goes (T : Tx K mg) : Meth K (ga K "Shrink") "goes" (ma K (ga K "Shrink") "goes") := He.meth_ok (T.c.1.fact 151 (f := .meth "Shrink" "goes") rfl)
theorem Tx.me_Shrink_height (T : Tx K mg) : Meth K (ga K "Shrink") "height" (ma K (ga K "Shrink") "height") := He.meth_ok (T.c.1.fact 152 (f := .meth "Shrink" "height") rfl)
theorem Tx.me_Shrink_keeps (T : Tx K mg) : Meth K (ga K "Shrink") "keeps" (ma K (ga K "Shrink") "keeps") := He.meth_ok (T.c.1.fact 153 (f := .meth "Shrink" "keeps") rfl)
theorem Tx.me_Shrink_runs (T : Tx K mg) : Meth K (ga K "Shrink") "runs" (ma K (ga K "Shrink") "runs") := He.meth_ok (T.c.1.fact 154 (f := .meth "Shrink" "runs") rfl)
theorem Tx.me_Put_goes (T : Tx K mg) : Meth K (ga K "Put") "goes" (ma K (ga K "Put") "goes") := He.meth_ok (T.c.1.fact 155 (f := .meth "Put" "goes") rfl)
theorem Tx.me_Put_height (T : Tx K mg) : Meth K (ga K "Put") "height" (ma K (ga K "Put") "height") := He.meth_ok (T.c.1.fact 156 (f := .meth "Put" "height") rfl)
theorem Tx.me_Put_keeps (T : Tx K mg) : Meth K (ga K "Put") "keeps" (ma K (ga K "Put") "keeps") := He.meth_ok (T.c.1.fact 157 (f := .meth "Put" "keeps") rfl)
theorem Tx.me_Put_runs (T : Tx K mg) : Meth K (ga K "Put") "runs" (ma K (ga K "Put") "runs") := He.meth_ok (T.c.1.fact 158 (f := .meth "Put" "runs") rfl)
theorem Tx.me_Get_goes (T : Tx K mg) : Meth K (ga K "Get") "goes" (ma K (ga K "Get") "goes") := He.meth_ok (T.c.1.fact 159 (f := .meth "Get" "goes") rfl)
theorem Tx.me_Get_height (T : Tx K mg) : Meth K (ga K "Get") "height" (ma K (ga K "Get") "height") := He.meth_ok (T.c.1.fact 160 (f := .meth "Get" "height") rfl)
theorem Tx.me_Get_keeps (T : Tx K mg) : Meth K (ga K "Get") "keeps" (ma K (ga K "Get") "keeps") := He.meth_ok (T.c.1.fact 161 (f := .meth "Get" "keeps") rfl)
theorem Tx.me_Get_runs (T : Tx K mg) : Meth K (ga K "Get") "runs" (ma K (ga K "Get") "runs") := He.meth_ok (T.c.1.fact 162 (f := .meth "Get" "runs") rfl)
theorem Tx.me_Jump_goes (T : Tx K mg) : Meth K (ga K "Jump") "goes" (ma K (ga K "Jump") "goes") := He.meth_ok (T.c.1.fact 163 (f := .meth "Jump" "goes") rfl)
theorem Tx.me_Jump_height (T : Tx K mg) : Meth K (ga K "Jump") "height" (ma K (ga K "Jump") "height") := He.meth_ok (T.c.1.fact 164 (f := .meth "Jump" "height") rfl)
theorem Tx.me_Jump_keeps (T : Tx K mg) : Meth K (ga K "Jump") "keeps" (ma K (ga K "Jump") "keeps") := He.meth_ok (T.c.1.fact 165 (f := .meth "Jump" "keeps") rfl)
theorem Tx.me_Jump_runs (T : Tx K mg) : Meth K (ga K "Jump") "runs" (ma K (ga K "Jump") "runs") := He.meth_ok (T.c.1.fact 166 (f := .meth "Jump" "runs") rfl)
theorem Tx.me_Branch_goes (T : Tx K mg) : Meth K (ga K "Branch") "goes" (ma K (ga K "Branch") "goes") := He.meth_ok (T.c.1.fact 167 (f := .meth "Branch" "goes") rfl)
theorem Tx.me_Branch_height (T : Tx K mg) : Meth K (ga K "Branch") "height" (ma K (ga K "Branch") "height") := He.meth_ok (T.c.1.fact 168 (f := .meth "Branch" "height") rfl)
theorem Tx.me_Branch_keeps (T : Tx K mg) : Meth K (ga K "Branch") "keeps" (ma K (ga K "Branch") "keeps") := He.meth_ok (T.c.1.fact 169 (f := .meth "Branch" "keeps") rfl)
theorem Tx.me_Branch_runs (T : Tx K mg) : Meth K (ga K "Branch") "runs" (ma K (ga K "Branch") "runs") := He.meth_ok (T.c.1.fact 170 (f := .meth "Branch" "runs") rfl)
theorem Tx.me_Call_goes (T : Tx K mg) : Meth K (ga K "Call") "goes" (ma K (ga K "Call") "goes") := He.meth_ok (T.c.1.fact 171 (f := .meth "Call" "goes") rfl)
theorem Tx.me_Call_height (T : Tx K mg) : Meth K (ga K "Call") "height" (ma K (ga K "Call") "height") := He.meth_ok (T.c.1.fact 172 (f := .meth "Call" "height") rfl)
theorem Tx.me_Call_keeps (T : Tx K mg) : Meth K (ga K "Call") "keeps" (ma K (ga K "Call") "keeps") := He.meth_ok (T.c.1.fact 173 (f := .meth "Call" "keeps") rfl)
theorem Tx.me_Call_runs (T : Tx K mg) : Meth K (ga K "Call") "runs" (ma K (ga K "Call") "runs") := He.meth_ok (T.c.1.fact 174 (f := .meth "Call" "runs") rfl)
theorem Tx.me_Back_goes (T : Tx K mg) : Meth K (ga K "Back") "goes" (ma K (ga K "Back") "goes") := He.meth_ok (T.c.1.fact 175 (f := .meth "Back" "goes") rfl)
theorem Tx.me_Back_height (T : Tx K mg) : Meth K (ga K "Back") "height" (ma K (ga K "Back") "height") := He.meth_ok (T.c.1.fact 176 (f := .meth "Back" "height") rfl)
theorem Tx.me_Back_keeps (T : Tx K mg) : Meth K (ga K "Back") "keeps" (ma K (ga K "Back") "keeps") := He.meth_ok (T.c.1.fact 177 (f := .meth "Back" "keeps") rfl)
theorem Tx.me_Back_runs (T : Tx K mg) : Meth K (ga K "Back") "runs" (ma K (ga K "Back") "runs") := He.meth_ok (T.c.1.fact 178 (f := .meth "Back" "runs") rfl)
theorem Tx.me_Drop_goes (T : Tx K mg) : Meth K (ga K "Drop") "goes" (ma K (ga K "Drop") "goes") := He.meth_ok (T.c.1.fact 179 (f := .meth "Drop" "goes") rfl)
theorem Tx.me_Drop_height (T : Tx K mg) : Meth K (ga K "Drop") "height" (ma K (ga K "Drop") "height") := He.meth_ok (T.c.1.fact 180 (f := .meth "Drop" "height") rfl)
theorem Tx.me_Drop_keeps (T : Tx K mg) : Meth K (ga K "Drop") "keeps" (ma K (ga K "Drop") "keeps") := He.meth_ok (T.c.1.fact 181 (f := .meth "Drop" "keeps") rfl)
theorem Tx.me_Drop_runs (T : Tx K mg) : Meth K (ga K "Drop") "runs" (ma K (ga K "Drop") "runs") := He.meth_ok (T.c.1.fact 182 (f := .meth "Drop" "runs") rfl)
theorem Tx.me_Machine_at (T : Tx K mg) : Meth K (ga K "Machine") "at" (ma K (ga K "Machine") "at") := He.meth_ok (T.c.1.fact 183 (f := .meth "Machine" "at") rfl)
theorem Tx.me_Machine_boxes (T : Tx K mg) : Meth K (ga K "Machine") "boxes" (ma K (ga K "Machine") "boxes") := He.meth_ok (T.c.1.fact 184 (f := .meth "Machine" "boxes") rfl)
theorem Tx.me_Machine_pile (T : Tx K mg) : Meth K (ga K "Machine") "pile" (ma K (ga K "Machine") "pile") := He.meth_ok (T.c.1.fact 185 (f := .meth "Machine" "pile") rfl)
theorem Tx.me_Machine_word (T : Tx K mg) : Meth K (ga K "Machine") "word" (ma K (ga K "Machine") "word") := He.meth_ok (T.c.1.fact 186 (f := .meth "Machine" "word") rfl)
theorem Tx.me_Machine_fault (T : Tx K mg) : Meth K (ga K "Machine") "fault" (ma K (ga K "Machine") "fault") := He.meth_ok (T.c.1.fact 187 (f := .meth "Machine" "fault") rfl)
theorem Tx.me_Machine_step (T : Tx K mg) : Meth K (ga K "Machine") "step" (ma K (ga K "Machine") "step") := He.meth_ok (T.c.1.fact 188 (f := .meth "Machine" "step") rfl)
theorem Tx.me_Machine_go_on (T : Tx K mg) : Meth K (ga K "Machine") "go_on" (ma K (ga K "Machine") "go_on") := He.meth_ok (T.c.1.fact 189 (f := .meth "Machine" "go_on") rfl)
theorem Tx.me_Machine_drop (T : Tx K mg) : Meth K (ga K "Machine") "drop" (ma K (ga K "Machine") "drop") := He.meth_ok (T.c.1.fact 190 (f := .meth "Machine" "drop") rfl)
theorem Tx.me_Machine_land (T : Tx K mg) : Meth K (ga K "Machine") "land" (ma K (ga K "Machine") "land") := He.meth_ok (T.c.1.fact 191 (f := .meth "Machine" "land") rfl)
theorem Tx.ex_NoTable (T : Tx K mg) : PySem.W.excIn K (ga K "NoTable") He.veBase "ValueError.__new__" = true ∧ PySem.W.keepIn K (.ref (ga K "NoTable")) = true ∧ PySem.W.subIn K (.ref (ga K "NoTable")) (.type "BaseException") = some true ∧ PySem.W.typeIn K (.ref (ga K "NoTable")) = some (.type "type") := He.exc_ok (T.c.1.fact 192 (f := .exc "NoTable") rfl)
theorem Tx.em_NoTable (T : Tx K mg) : PySem.W.exmOne K (.ref (ga K "NoTable")) (.ref (ga K "NoTable")) = some true := He.exm_ok (T.c.1.fact 193 (f := .exm "NoTable" "NoTable" true) rfl)
theorem Tx.F_lying (T : Tx K mg) : ∃ fd, FunD K "lying" "lying" (defArgs s_lying) (defBody s_lying) (defScope s_lying) [] [] (ga K "lying") fd := T.c.1.def_ 0 rfl
theorem Tx.kp_lying (T : Tx K mg) : PySem.W.keepIn K (.ref (ga K "lying")) = true := (T.F_lying).elim fun _ F => F.kp
theorem Tx.F_one_up (T : Tx K mg) : ∃ fd, FunD K "one_up" "one_up" (defArgs s_one_up) (defBody s_one_up) (defScope s_one_up) [] [] (ga K "one_up") fd := T.c.1.def_ 1 rfl
theorem Tx.kp_one_up (T : Tx K mg) : PySem.W.keepIn K (.ref (ga K "one_up")) = true := (T.F_one_up).elim fun _ F => F.kp
theorem Tx.F_callers (T : Tx K mg) : ∃ fd, FunD K "callers" "callers" (defArgs s_callers) (defBody s_callers) (defScope s_callers) [] [] (ga K "callers") fd := T.c.1.def_ 2 rfl
theorem Tx.kp_callers (T : Tx K mg) : PySem.W.keepIn K (.ref (ga K "callers")) = true := (T.F_callers).elim fun _ F => F.kp
theorem Tx.F_within (T : Tx K mg) : ∃ fd, FunD K "within" "within" (defArgs s_within) (defBody s_within) (defScope s_within) [] [] (ga K "within") fd := T.c.1.def_ 3 rfl
theorem Tx.kp_within (T : Tx K mg) : PySem.W.keepIn K (.ref (ga K "within")) = true := (T.F_within).elim fun _ F => F.kp
theorem Tx.F_with_value (T : Tx K mg) : ∃ fd, FunD K "with_value" "with_value" (defArgs s_with_value) (defBody s_with_value) (defScope s_with_value) [] [] (ga K "with_value") fd := T.c.1.def_ 4 rfl
theorem Tx.kp_with_value (T : Tx K mg) : PySem.W.keepIn K (.ref (ga K "with_value")) = true := (T.F_with_value).elim fun _ F => F.kp
theorem Tx.F_without (T : Tx K mg) : ∃ fd, FunD K "without" "without" (defArgs s_without) (defBody s_without) (defScope s_without) [] [] (ga K "without") fd := T.c.1.def_ 5 rfl
theorem Tx.kp_without (T : Tx K mg) : PySem.W.keepIn K (.ref (ga K "without")) = true := (T.F_without).elim fun _ F => F.kp
theorem Tx.F_followed (T : Tx K mg) : ∃ fd, FunD K "followed" "followed" (defArgs s_followed) (defBody s_followed) (defScope s_followed) [] [] (ga K "followed") fd := T.c.1.def_ 6 rfl
theorem Tx.kp_followed (T : Tx K mg) : PySem.W.keepIn K (.ref (ga K "followed")) = true := (T.F_followed).elim fun _ F => F.kp
theorem Tx.F_bit_of (T : Tx K mg) : ∃ fd, FunD K "bit_of" "bit_of" (defArgs s_bit_of) (defBody s_bit_of) (defScope s_bit_of) [] [] (ga K "bit_of") fd := T.c.1.def_ 7 rfl
theorem Tx.kp_bit_of (T : Tx K mg) : PySem.W.keepIn K (.ref (ga K "bit_of")) = true := (T.F_bit_of).elim fun _ F => F.kp
theorem Tx.F_is_set (T : Tx K mg) : ∃ fd, FunD K "is_set" "is_set" (defArgs s_is_set) (defBody s_is_set) (defScope s_is_set) [] [] (ga K "is_set") fd := T.c.1.def_ 8 rfl
theorem Tx.kp_is_set (T : Tx K mg) : PySem.W.keepIn K (.ref (ga K "is_set")) = true := (T.F_is_set).elim fun _ F => F.kp
theorem Tx.F_is_entry (T : Tx K mg) : ∃ fd, FunD K "is_entry" "is_entry" (defArgs s_is_entry) (defBody s_is_entry) (defScope s_is_entry) [] [] (ga K "is_entry") fd := T.c.1.def_ 9 rfl
theorem Tx.kp_is_entry (T : Tx K mg) : PySem.W.keepIn K (.ref (ga K "is_entry")) = true := (T.F_is_entry).elim fun _ F => F.kp
theorem Tx.F_may_go_back (T : Tx K mg) : ∃ fd, FunD K "may_go_back" "may_go_back" (defArgs s_may_go_back) (defBody s_may_go_back) (defScope s_may_go_back) [] [] (ga K "may_go_back") fd := T.c.1.def_ 10 rfl
theorem Tx.kp_may_go_back (T : Tx K mg) : PySem.W.keepIn K (.ref (ga K "may_go_back")) = true := (T.F_may_go_back).elim fun _ F => F.kp
theorem Tx.F_own_complaint (T : Tx K mg) : ∃ fd, FunD K "own_complaint" "own_complaint" (defArgs s_own_complaint) (defBody s_own_complaint) (defScope s_own_complaint) [] [] (ga K "own_complaint") fd := T.c.1.def_ 11 rfl
theorem Tx.kp_own_complaint (T : Tx K mg) : PySem.W.keepIn K (.ref (ga K "own_complaint")) = true := (T.F_own_complaint).elim fun _ F => F.kp
theorem Tx.F_unlike (T : Tx K mg) : ∃ fd, FunD K "unlike" "unlike" (defArgs s_unlike) (defBody s_unlike) (defScope s_unlike) [] [] (ga K "unlike") fd := T.c.1.def_ 12 rfl
theorem Tx.kp_unlike (T : Tx K mg) : PySem.W.keepIn K (.ref (ga K "unlike")) = true := (T.F_unlike).elim fun _ F => F.kp
theorem Tx.F_onward (T : Tx K mg) : ∃ fd, FunD K "onward" "onward" (defArgs s_onward) (defBody s_onward) (defScope s_onward) [] [] (ga K "onward") fd := T.c.1.def_ 13 rfl
theorem Tx.kp_onward (T : Tx K mg) : PySem.W.keepIn K (.ref (ga K "onward")) = true := (T.F_onward).elim fun _ F => F.kp
theorem Tx.F_landed (T : Tx K mg) : ∃ fd, FunD K "landed" "landed" (defArgs s_landed) (defBody s_landed) (defScope s_landed) [] [] (ga K "landed") fd := T.c.1.def_ 14 rfl
theorem Tx.kp_landed (T : Tx K mg) : PySem.W.keepIn K (.ref (ga K "landed")) = true := (T.F_landed).elim fun _ F => F.kp
theorem Tx.F_checked (T : Tx K mg) : ∃ fd, FunD K "checked" "checked" (defArgs s_checked) (defBody s_checked) (defScope s_checked) [] [] (ga K "checked") fd := T.c.1.def_ 15 rfl
theorem Tx.kp_checked (T : Tx K mg) : PySem.W.keepIn K (.ref (ga K "checked")) = true := (T.F_checked).elim fun _ F => F.kp
theorem Tx.F_entry_behind (T : Tx K mg) : ∃ fd, FunD K "entry_behind" "entry_behind" (defArgs s_entry_behind) (defBody s_entry_behind) (defScope s_entry_behind) [] [] (ga K "entry_behind") fd := T.c.1.def_ 16 rfl
theorem Tx.kp_entry_behind (T : Tx K mg) : PySem.W.keepIn K (.ref (ga K "entry_behind")) = true := (T.F_entry_behind).elim fun _ F => F.kp
theorem Tx.F_entry_of_both (T : Tx K mg) : ∃ fd, FunD K "entry_of_both" "entry_of_both" (defArgs s_entry_of_both) (defBody s_entry_of_both) (defScope s_entry_of_both) [] [] (ga K "entry_of_both") fd := T.c.1.def_ 17 rfl
theorem Tx.kp_entry_of_both (T : Tx K mg) : PySem.W.keepIn K (.ref (ga K "entry_of_both")) = true := (T.F_entry_of_both).elim fun _ F => F.kp
theorem Tx.F_ways_from (T : Tx K mg) : ∃ fd, FunD K "ways_from" "ways_from" (defArgs s_ways_from) (defBody s_ways_from) (defScope s_ways_from) [] [] (ga K "ways_from") fd := T.c.1.def_ 18 rfl
theorem Tx.kp_ways_from (T : Tx K mg) : PySem.W.keepIn K (.ref (ga K "ways_from")) = true := (T.F_ways_from).elim fun _ F => F.kp
theorem Tx.F_guess (T : Tx K mg) : ∃ fd, FunD K "guess" "guess" (defArgs s_guess) (defBody s_guess) (defScope s_guess) [.non] [] (ga K "guess") fd := T.c.1.def_ 19 rfl
theorem Tx.kp_guess (T : Tx K mg) : PySem.W.keepIn K (.ref (ga K "guess")) = true := (T.F_guess).elim fun _ F => F.kp
theorem Tx.F_law_cell_at (T : Tx K mg) : ∃ fd, FunD K "_law_cell_at" "_law_cell_at" (defArgs s_law_cell_at) (defBody s_law_cell_at) (defScope s_law_cell_at) [] [] (ga K "_law_cell_at") fd := T.c.1.def_ 20 rfl
theorem Tx.kp_law_cell_at (T : Tx K mg) : PySem.W.keepIn K (.ref (ga K "_law_cell_at")) = true := (T.F_law_cell_at).elim fun _ F => F.kp
theorem Tx.F_law_value (T : Tx K mg) : ∃ fd, FunD K "_law_value" "_law_value" (defArgs s_law_value) (defBody s_law_value) (defScope s_law_value) [] [] (ga K "_law_value") fd := T.c.1.def_ 21 rfl
theorem Tx.kp_law_value (T : Tx K mg) : PySem.W.keepIn K (.ref (ga K "_law_value")) = true := (T.F_law_value).elim fun _ F => F.kp
theorem Tx.F_law_row (T : Tx K mg) : ∃ fd, FunD K "_law_row" "_law_row" (defArgs s_law_row) (defBody s_law_row) (defScope s_law_row) [] [] (ga K "_law_row") fd := T.c.1.def_ 22 rfl
theorem Tx.kp_law_row (T : Tx K mg) : PySem.W.keepIn K (.ref (ga K "_law_row")) = true := (T.F_law_row).elim fun _ F => F.kp
theorem Tx.F_law_body (T : Tx K mg) : ∃ fd, FunD K "_law_body" "_law_body" (defArgs s_law_body) (defBody s_law_body) (defScope s_law_body) [] [] (ga K "_law_body") fd := T.c.1.def_ 23 rfl
theorem Tx.kp_law_body (T : Tx K mg) : PySem.W.keepIn K (.ref (ga K "_law_body")) = true := (T.F_law_body).elim fun _ F => F.kp
theorem Tx.F_law_function (T : Tx K mg) : ∃ fd, FunD K "_law_function" "_law_function" (defArgs s_law_function) (defBody s_law_function) (defScope s_law_function) [] [] (ga K "_law_function") fd := T.c.1.def_ 24 rfl
theorem Tx.kp_law_function (T : Tx K mg) : PySem.W.keepIn K (.ref (ga K "_law_function")) = true := (T.F_law_function).elim fun _ F => F.kp
theorem Tx.F_law_code (T : Tx K mg) : ∃ fd, FunD K "_law_code" "_law_code" (defArgs s_law_code) (defBody s_law_code) (defScope s_law_code) [] [] (ga K "_law_code") fd := T.c.1.def_ 25 rfl
theorem Tx.kp_law_code (T : Tx K mg) : PySem.W.keepIn K (.ref (ga K "_law_code")) = true := (T.F_law_code).elim fun _ F => F.kp
theorem Tx.F_law_any_row (T : Tx K mg) : ∃ fd, FunD K "_law_any_row" "_law_any_row" (defArgs s_law_any_row) (defBody s_law_any_row) (defScope s_law_any_row) [] [] (ga K "_law_any_row") fd := T.c.1.def_ 26 rfl
theorem Tx.kp_law_any_row (T : Tx K mg) : PySem.W.keepIn K (.ref (ga K "_law_any_row")) = true := (T.F_law_any_row).elim fun _ F => F.kp
theorem Tx.F_law_any_code (T : Tx K mg) : ∃ fd, FunD K "_law_any_code" "_law_any_code" (defArgs s_law_any_code) (defBody s_law_any_code) (defScope s_law_any_code) [] [] (ga K "_law_any_code") fd := T.c.1.def_ 27 rfl
theorem Tx.kp_law_any_code (T : Tx K mg) : PySem.W.keepIn K (.ref (ga K "_law_any_code")) = true := (T.F_law_any_code).elim fun _ F => F.kp
theorem Tx.F_law_table (T : Tx K mg) : ∃ fd, FunD K "_law_table" "_law_table" (defArgs s_law_table) (defBody s_law_table) (defScope s_law_table) [] [] (ga K "_law_table") fd := T.c.1.def_ 28 rfl
theorem Tx.kp_law_table (T : Tx K mg) : PySem.W.keepIn K (.ref (ga K "_law_table")) = true := (T.F_law_table).elim fun _ F => F.kp
theorem Tx.F_law_landing (T : Tx K mg) : ∃ fd, FunD K "_law_landing" "_law_landing" (defArgs s_law_landing) (defBody s_law_landing) (defScope s_law_landing) [] [] (ga K "_law_landing") fd := T.c.1.def_ 29 rfl
theorem Tx.kp_law_landing (T : Tx K mg) : PySem.W.keepIn K (.ref (ga K "_law_landing")) = true := (T.F_law_landing).elim fun _ F => F.kp
theorem Tx.F_law_as_then (T : Tx K mg) : ∃ fd, FunD K "_law_as_then" "_law_as_then" (defArgs s_law_as_then) (defBody s_law_as_then) (defScope s_law_as_then) [] [] (ga K "_law_as_then") fd := T.c.1.def_ 30 rfl
theorem Tx.kp_law_as_then (T : Tx K mg) : PySem.W.keepIn K (.ref (ga K "_law_as_then")) = true := (T.F_law_as_then).elim fun _ F => F.kp
theorem Tx.F_law_landed (T : Tx K mg) : ∃ fd, FunD K "_law_landed" "_law_landed" (defArgs s_law_landed) (defBody s_law_landed) (defScope s_law_landed) [] [] (ga K "_law_landed") fd := T.c.1.def_ 31 rfl
theorem Tx.kp_law_landed (T : Tx K mg) : PySem.W.keepIn K (.ref (ga K "_law_landed")) = true := (T.F_law_landed).elim fun _ F => F.kp
theorem Tx.F_law_back (T : Tx K mg) : ∃ fd, FunD K "_law_back" "_law_back" (defArgs s_law_back) (defBody s_law_back) (defScope s_law_back) [] [] (ga K "_law_back") fd := T.c.1.def_ 32 rfl
theorem Tx.kp_law_back (T : Tx K mg) : PySem.W.keepIn K (.ref (ga K "_law_back")) = true := (T.F_law_back).elim fun _ F => F.kp
theorem Tx.F_law (T : Tx K mg) : ∃ fd, FunD K "law" "law" (defArgs s_law) (defBody s_law) (defScope s_law) [] [] (ga K "law") fd := T.c.1.def_ 33 rfl
theorem Tx.kp_law (T : Tx K mg) : PySem.W.keepIn K (.ref (ga K "law")) = true := (T.F_law).elim fun _ F => F.kp
theorem Tx.F_Set_init (T : Tx K mg) : ∃ fd, FunD K "__init__" "Set.__init__" (defArgs s_Set_init) (defBody s_Set_init) (defScope s_Set_init) [] [] (ma K (ga K "Set") "__init__") fd := T.c.1.def_ 34 rfl
theorem Tx.kp_Set_init (T : Tx K mg) : PySem.W.keepIn K (.ref (ma K (ga K "Set") "__init__")) = true := (T.F_Set_init).elim fun _ F => F.kp
theorem Tx.F_Set_goes (T : Tx K mg) : ∃ fd, FunD K "goes" "Row.goes" (defArgs s_Set_goes) (defBody s_Set_goes) (defScope s_Set_goes) [] [] (ma K (ga K "Set") "goes") fd := T.c.1.def_ 35 rfl
theorem Tx.kp_Set_goes (T : Tx K mg) : PySem.W.keepIn K (.ref (ma K (ga K "Set") "goes")) = true := (T.F_Set_goes).elim fun _ F => F.kp
theorem Tx.F_Set_height (T : Tx K mg) : ∃ fd, FunD K "height" "Row.height" (defArgs s_Set_height) (defBody s_Set_height) (defScope s_Set_height) [] [] (ma K (ga K "Set") "height") fd := T.c.1.def_ 36 rfl
theorem Tx.kp_Set_height (T : Tx K mg) : PySem.W.keepIn K (.ref (ma K (ga K "Set") "height")) = true := (T.F_Set_height).elim fun _ F => F.kp
theorem Tx.F_Set_keeps (T : Tx K mg) : ∃ fd, FunD K "keeps" "Fill.keeps" (defArgs s_Set_keeps) (defBody s_Set_keeps) (defScope s_Set_keeps) [] [] (ma K (ga K "Set") "keeps") fd := T.c.1.def_ 37 rfl
theorem Tx.kp_Set_keeps (T : Tx K mg) : PySem.W.keepIn K (.ref (ma K (ga K "Set") "keeps")) = true := (T.F_Set_keeps).elim fun _ F => F.kp
theorem Tx.F_Set_runs (T : Tx K mg) : ∃ fd, FunD K "runs" "Fill.runs" (defArgs s_Set_runs) (defBody s_Set_runs) (defScope s_Set_runs) [] [] (ma K (ga K "Set") "runs") fd := T.c.1.def_ 38 rfl
theorem Tx.kp_Set_runs (T : Tx K mg) : PySem.W.keepIn K (.ref (ma K (ga K "Set") "runs")) = true := (T.F_Set_runs).elim fun _ F => F.kp
theorem Tx.F_Set_value (T : Tx K mg) : ∃ fd, FunD K "value" "Set.value" (defArgs s_Set_value) (defBody s_Set_value) (defScope s_Set_value) [] [] (ma K (ga K "Set") "value") fd := T.c.1.def_ 39 rfl
theorem Tx.kp_Set_value (T : Tx K mg) : PySem.W.keepIn K (.ref (ma K (ga K "Set") "value")) = true := (T.F_Set_value).elim fun _ F => F.kp
theorem Tx.F_Copy_init (T : Tx K mg) : ∃ fd, FunD K "__init__" "Copy.__init__" (defArgs s_Copy_init) (defBody s_Copy_init) (defScope s_Copy_init) [] [] (ma K (ga K "Copy") "__init__") fd := T.c.1.def_ 40 rfl
theorem Tx.kp_Copy_init (T : Tx K mg) : PySem.W.keepIn K (.ref (ma K (ga K "Copy") "__init__")) = true := (T.F_Copy_init).elim fun _ F => F.kp
theorem Tx.F_Copy_goes (T : Tx K mg) : ∃ fd, FunD K "goes" "Row.goes" (defArgs s_Copy_goes) (defBody s_Copy_goes) (defScope s_Copy_goes) [] [] (ma K (ga K "Copy") "goes") fd := T.c.1.def_ 41 rfl
theorem Tx.kp_Copy_goes (T : Tx K mg) : PySem.W.keepIn K (.ref (ma K (ga K "Copy") "goes")) = true := (T.F_Copy_goes).elim fun _ F => F.kp
theorem Tx.F_Copy_height (T : Tx K mg) : ∃ fd, FunD K "height" "Row.height" (defArgs s_Copy_height) (defBody s_Copy_height) (defScope s_Copy_height) [] [] (ma K (ga K "Copy") "height") fd := T.c.1.def_ 42 rfl
theorem Tx.kp_Copy_height (T : Tx K mg) : PySem.W.keepIn K (.ref (ma K (ga K "Copy") "height")) = true := (T.F_Copy_height).elim fun _ F => F.kp
theorem Tx.F_Copy_keeps (T : Tx K mg) : ∃ fd, FunD K "keeps" "Copy.keeps" (defArgs s_Copy_keeps) (defBody s_Copy_keeps) (defScope s_Copy_keeps) [] [] (ma K (ga K "Copy") "keeps") fd := T.c.1.def_ 43 rfl
theorem Tx.kp_Copy_keeps (T : Tx K mg) : PySem.W.keepIn K (.ref (ma K (ga K "Copy") "keeps")) = true := (T.F_Copy_keeps).elim fun _ F => F.kp
theorem Tx.F_Copy_runs (T : Tx K mg) : ∃ fd, FunD K "runs" "Fill.runs" (defArgs s_Copy_runs) (defBody s_Copy_runs) (defScope s_Copy_runs) [] [] (ma K (ga K "Copy") "runs") fd := T.c.1.def_ 44 rfl
theorem Tx.kp_Copy_runs (T : Tx K mg) : PySem.W.keepIn K (.ref (ma K (ga K "Copy") "runs")) = true := (T.F_Copy_runs).elim fun _ F => F.kp
theorem Tx.F_Copy_value (T : Tx K mg) : ∃ fd, FunD K "value" "Copy.value" (defArgs s_Copy_value) (defBody s_Copy_value) (defScope s_Copy_value) [] [] (ma K (ga K "Copy") "value") fd := T.c.1.def_ 45 rfl
theorem Tx.kp_Copy_value (T : Tx K mg) : PySem.W.keepIn K (.ref (ma K (ga K "Copy") "value")) = true := (T.F_Copy_value).elim fun _ F => F.kp
theorem Tx.F_Add_init (T : Tx K mg) : ∃ fd, FunD K "__init__" "Reckon.__init__" (defArgs s_Add_init) (defBody s_Add_init) (defScope s_Add_init) [] [] (ma K (ga K "Add") "__init__") fd := T.c.1.def_ 46 rfl
theorem Tx.kp_Add_init (T : Tx K mg) : PySem.W.keepIn K (.ref (ma K (ga K "Add") "__init__")) = true := (T.F_Add_init).elim fun _ F => F.kp
theorem Tx.F_Add_goes (T : Tx K mg) : ∃ fd, FunD K "goes" "Row.goes" (defArgs s_Add_goes) (defBody s_Add_goes) (defScope s_Add_goes) [] [] (ma K (ga K "Add") "goes") fd := T.c.1.def_ 47 rfl
theorem Tx.kp_Add_goes (T : Tx K mg) : PySem.W.keepIn K (.ref (ma K (ga K "Add") "goes")) = true := (T.F_Add_goes).elim fun _ F => F.kp
theorem Tx.F_Add_height (T : Tx K mg) : ∃ fd, FunD K "height" "Row.height" (defArgs s_Add_height) (defBody s_Add_height) (defScope s_Add_height) [] [] (ma K (ga K "Add") "height") fd := T.c.1.def_ 48 rfl
theorem Tx.kp_Add_height (T : Tx K mg) : PySem.W.keepIn K (.ref (ma K (ga K "Add") "height")) = true := (T.F_Add_height).elim fun _ F => F.kp
theorem Tx.F_Add_keeps (T : Tx K mg) : ∃ fd, FunD K "keeps" "Fill.keeps" (defArgs s_Add_keeps) (defBody s_Add_keeps) (defScope s_Add_keeps) [] [] (ma K (ga K "Add") "keeps") fd := T.c.1.def_ 49 rfl
theorem Tx.kp_Add_keeps (T : Tx K mg) : PySem.W.keepIn K (.ref (ma K (ga K "Add") "keeps")) = true := (T.F_Add_keeps).elim fun _ F => F.kp
theorem Tx.F_Add_runs (T : Tx K mg) : ∃ fd, FunD K "runs" "Fill.runs" (defArgs s_Add_runs) (defBody s_Add_runs) (defScope s_Add_runs) [] [] (ma K (ga K "Add") "runs") fd := T.c.1.def_ 50 rfl
theorem Tx.kp_Add_runs (T : Tx K mg) : PySem.W.keepIn K (.ref (ma K (ga K "Add") "runs")) = true := (T.F_Add_runs).elim fun _ F => F.kp
theorem Tx.F_Add_value (T : Tx K mg) : ∃ fd, FunD K "value" "Reckon.value" (defArgs s_Add_value) (defBody s_Add_value) (defScope s_Add_value) [] [] (ma K (ga K "Add") "value") fd := T.c.1.def_ 51 rfl
theorem Tx.kp_Add_value (T : Tx K mg) : PySem.W.keepIn K (.ref (ma K (ga K "Add") "value")) = true := (T.F_Add_value).elim fun _ F => F.kp
theorem Tx.F_Add_comes_to (T : Tx K mg) : ∃ fd, FunD K "comes_to" "Add.comes_to" (defArgs s_Add_comes_to) (defBody s_Add_comes_to) (defScope s_Add_comes_to) [] [] (ma K (ga K "Add") "comes_to") fd := T.c.1.def_ 52 rfl
theorem Tx.kp_Add_comes_to (T : Tx K mg) : PySem.W.keepIn K (.ref (ma K (ga K "Add") "comes_to")) = true := (T.F_Add_comes_to).elim fun _ F => F.kp
theorem Tx.F_Grow_init (T : Tx K mg) : ∃ fd, FunD K "__init__" "Grow.__init__" (defArgs s_Grow_init) (defBody s_Grow_init) (defScope s_Grow_init) [] [] (ma K (ga K "Grow") "__init__") fd := T.c.1.def_ 53 rfl
theorem Tx.kp_Grow_init (T : Tx K mg) : PySem.W.keepIn K (.ref (ma K (ga K "Grow") "__init__")) = true := (T.F_Grow_init).elim fun _ F => F.kp
theorem Tx.F_Grow_goes (T : Tx K mg) : ∃ fd, FunD K "goes" "Row.goes" (defArgs s_Grow_goes) (defBody s_Grow_goes) (defScope s_Grow_goes) [] [] (ma K (ga K "Grow") "goes") fd := T.c.1.def_ 54 rfl
theorem Tx.kp_Grow_goes (T : Tx K mg) : PySem.W.keepIn K (.ref (ma K (ga K "Grow") "goes")) = true := (T.F_Grow_goes).elim fun _ F => F.kp
theorem Tx.F_Grow_height (T : Tx K mg) : ∃ fd, FunD K "height" "Grow.height" (defArgs s_Grow_height) (defBody s_Grow_height) (defScope s_Grow_height) [] [] (ma K (ga K "Grow") "height") fd := T.c.1.def_ 55 rfl
theorem Tx.kp_Grow_height (T : Tx K mg) : PySem.W.keepIn K (.ref (ma K (ga K "Grow") "height")) = true := (T.F_Grow_height).elim fun _ F => F.kp
theorem Tx.F_Grow_keeps (T : Tx K mg) : ∃ fd, FunD K "keeps" "Row.keeps" (defArgs s_Grow_keeps) (defBody s_Grow_keeps) (defScope s_Grow_keeps) [] [] (ma K (ga K "Grow") "keeps") fd := T.c.1.def_ 56 rfl
theorem Tx.kp_Grow_keeps (T : Tx K mg) : PySem.W.keepIn K (.ref (ma K (ga K "Grow") "keeps")) = true := (T.F_Grow_keeps).elim fun _ F => F.kp
theorem Tx.F_Grow_runs (T : Tx K mg) : ∃ fd, FunD K "runs" "Grow.runs" (defArgs s_Grow_runs) (defBody s_Grow_runs) (defScope s_Grow_runs) [] [] (ma K (ga K "Grow") "runs") fd := T.c.1.def_ 57 rfl
theorem Tx.kp_Grow_runs (T : Tx K mg) : PySem.W.keepIn K (.ref (ma K (ga K "Grow") "runs")) = true := (T.F_Grow_runs).elim fun _ F => F.kp
theorem Tx.F_Shrink_init (T : Tx K mg) : ∃ fd, FunD K "__init__" "Shrink.__init__" (defArgs s_Shrink_init) (defBody s_Shrink_init) (defScope s_Shrink_init) [] [] (ma K (ga K "Shrink") "__init__") fd := T.c.1.def_ 58 rfl
theorem Tx.kp_Shrink_init (T : Tx K mg) : PySem.W.keepIn K (.ref (ma K (ga K "Shrink") "__init__")) = true := (T.F_Shrink_init).elim fun _ F => F.kp
theorem Tx.F_Shrink_goes (T : Tx K mg) : ∃ fd, FunD K "goes" "Row.goes" (defArgs s_Shrink_goes) (defBody s_Shrink_goes) (defScope s_Shrink_goes) [] [] (ma K (ga K "Shrink") "goes") fd := T.c.1.def_ 59 rfl
theorem Tx.kp_Shrink_goes (T : Tx K mg) : PySem.W.keepIn K (.ref (ma K (ga K "Shrink") "goes")) = true := (T.F_Shrink_goes).elim fun _ F => F.kp
theorem Tx.F_Shrink_height (T : Tx K mg) : ∃ fd, FunD K "height" "Shrink.height" (defArgs s_Shrink_height) (defBody s_Shrink_height) (defScope s_Shrink_height) [] [] (ma K (ga K "Shrink") "height") fd := T.c.1.def_ 60 rfl
theorem Tx.kp_Shrink_height (T : Tx K mg) : PySem.W.keepIn K (.ref (ma K (ga K "Shrink") "height")) = true := (T.F_Shrink_height).elim fun _ F => F.kp
theorem Tx.F_Shrink_keeps (T : Tx K mg) : ∃ fd, FunD K "keeps" "Shrink.keeps" (defArgs s_Shrink_keeps) (defBody s_Shrink_keeps) (defScope s_Shrink_keeps) [] [] (ma K (ga K "Shrink") "keeps") fd := T.c.1.def_ 61 rfl
theorem Tx.kp_Shrink_keeps (T : Tx K mg) : PySem.W.keepIn K (.ref (ma K (ga K "Shrink") "keeps")) = true := (T.F_Shrink_keeps).elim fun _ F => F.kp
theorem Tx.F_Shrink_runs (T : Tx K mg) : ∃ fd, FunD K "runs" "Shrink.runs" (defArgs s_Shrink_runs) (defBody s_Shrink_runs) (defScope s_Shrink_runs) [] [] (ma K (ga K "Shrink") "runs") fd := T.c.1.def_ 62 rfl
theorem Tx.kp_Shrink_runs (T : Tx K mg) : PySem.W.keepIn K (.ref (ma K (ga K "Shrink") "runs")) = true := (T.F_Shrink_runs).elim fun _ F => F.kp
theorem Tx.F_Put_init (T : Tx K mg) : ∃ fd, FunD K "__init__" "Touch.__init__" (defArgs s_Put_init) (defBody s_Put_init) (defScope s_Put_init) [] [] (ma K (ga K "Put") "__init__") fd := T.c.1.def_ 63 rfl
theorem Tx.kp_Put_init (T : Tx K mg) : PySem.W.keepIn K (.ref (ma K (ga K "Put") "__init__")) = true := (T.F_Put_init).elim fun _ F => F.kp
theorem Tx.F_Put_goes (T : Tx K mg) : ∃ fd, FunD K "goes" "Row.goes" (defArgs s_Put_goes) (defBody s_Put_goes) (defScope s_Put_goes) [] [] (ma K (ga K "Put") "goes") fd := T.c.1.def_ 64 rfl
theorem Tx.kp_Put_goes (T : Tx K mg) : PySem.W.keepIn K (.ref (ma K (ga K "Put") "goes")) = true := (T.F_Put_goes).elim fun _ F => F.kp
theorem Tx.F_Put_height (T : Tx K mg) : ∃ fd, FunD K "height" "Touch.height" (defArgs s_Put_height) (defBody s_Put_height) (defScope s_Put_height) [] [] (ma K (ga K "Put") "height") fd := T.c.1.def_ 65 rfl
theorem Tx.kp_Put_height (T : Tx K mg) : PySem.W.keepIn K (.ref (ma K (ga K "Put") "height")) = true := (T.F_Put_height).elim fun _ F => F.kp
theorem Tx.F_Put_keeps (T : Tx K mg) : ∃ fd, FunD K "keeps" "Put.keeps" (defArgs s_Put_keeps) (defBody s_Put_keeps) (defScope s_Put_keeps) [] [] (ma K (ga K "Put") "keeps") fd := T.c.1.def_ 66 rfl
theorem Tx.kp_Put_keeps (T : Tx K mg) : PySem.W.keepIn K (.ref (ma K (ga K "Put") "keeps")) = true := (T.F_Put_keeps).elim fun _ F => F.kp
theorem Tx.F_Put_runs (T : Tx K mg) : ∃ fd, FunD K "runs" "Put.runs" (defArgs s_Put_runs) (defBody s_Put_runs) (defScope s_Put_runs) [] [] (ma K (ga K "Put") "runs") fd := T.c.1.def_ 67 rfl
theorem Tx.kp_Put_runs (T : Tx K mg) : PySem.W.keepIn K (.ref (ma K (ga K "Put") "runs")) = true := (T.F_Put_runs).elim fun _ F => F.kp
theorem Tx.F_Get_init (T : Tx K mg) : ∃ fd, FunD K "__init__" "Touch.__init__" (defArgs s_Get_init) (defBody s_Get_init) (defScope s_Get_init) [] [] (ma K (ga K "Get") "__init__") fd := T.c.1.def_ 68 rfl
theorem Tx.kp_Get_init (T : Tx K mg) : PySem.W.keepIn K (.ref (ma K (ga K "Get") "__init__")) = true := (T.F_Get_init).elim fun _ F => F.kp
theorem Tx.F_Get_goes (T : Tx K mg) : ∃ fd, FunD K "goes" "Row.goes" (defArgs s_Get_goes) (defBody s_Get_goes) (defScope s_Get_goes) [] [] (ma K (ga K "Get") "goes") fd := T.c.1.def_ 69 rfl
theorem Tx.kp_Get_goes (T : Tx K mg) : PySem.W.keepIn K (.ref (ma K (ga K "Get") "goes")) = true := (T.F_Get_goes).elim fun _ F => F.kp
theorem Tx.F_Get_height (T : Tx K mg) : ∃ fd, FunD K "height" "Touch.height" (defArgs s_Get_height) (defBody s_Get_height) (defScope s_Get_height) [] [] (ma K (ga K "Get") "height") fd := T.c.1.def_ 70 rfl
theorem Tx.kp_Get_height (T : Tx K mg) : PySem.W.keepIn K (.ref (ma K (ga K "Get") "height")) = true := (T.F_Get_height).elim fun _ F => F.kp
theorem Tx.F_Get_keeps (T : Tx K mg) : ∃ fd, FunD K "keeps" "Get.keeps" (defArgs s_Get_keeps) (defBody s_Get_keeps) (defScope s_Get_keeps) [] [] (ma K (ga K "Get") "keeps") fd := T.c.1.def_ 71 rfl
theorem Tx.kp_Get_keeps (T : Tx K mg) : PySem.W.keepIn K (.ref (ma K (ga K "Get") "keeps")) = true := (T.F_Get_keeps).elim fun _ F => F.kp
theorem Tx.F_Get_runs (T : Tx K mg) : ∃ fd, FunD K "runs" "Get.runs" (defArgs s_Get_runs) (defBody s_Get_runs) (defScope s_Get_runs) [] [] (ma K (ga K "Get") "runs") fd := T.c.1.def_ 72 rfl
theorem Tx.kp_Get_runs (T : Tx K mg) : PySem.W.keepIn K (.ref (ma K (ga K "Get") "runs")) = true := (T.F_Get_runs).elim fun _ F => F.kp
theorem Tx.F_Jump_init (T : Tx K mg) : ∃ fd, FunD K "__init__" "Jump.__init__" (defArgs s_Jump_init) (defBody s_Jump_init) (defScope s_Jump_init) [] [] (ma K (ga K "Jump") "__init__") fd := T.c.1.def_ 73 rfl
theorem Tx.kp_Jump_init (T : Tx K mg) : PySem.W.keepIn K (.ref (ma K (ga K "Jump") "__init__")) = true := (T.F_Jump_init).elim fun _ F => F.kp
theorem Tx.F_Jump_goes (T : Tx K mg) : ∃ fd, FunD K "goes" "Jump.goes" (defArgs s_Jump_goes) (defBody s_Jump_goes) (defScope s_Jump_goes) [] [] (ma K (ga K "Jump") "goes") fd := T.c.1.def_ 74 rfl
theorem Tx.kp_Jump_goes (T : Tx K mg) : PySem.W.keepIn K (.ref (ma K (ga K "Jump") "goes")) = true := (T.F_Jump_goes).elim fun _ F => F.kp
theorem Tx.F_Jump_height (T : Tx K mg) : ∃ fd, FunD K "height" "Row.height" (defArgs s_Jump_height) (defBody s_Jump_height) (defScope s_Jump_height) [] [] (ma K (ga K "Jump") "height") fd := T.c.1.def_ 75 rfl
theorem Tx.kp_Jump_height (T : Tx K mg) : PySem.W.keepIn K (.ref (ma K (ga K "Jump") "height")) = true := (T.F_Jump_height).elim fun _ F => F.kp
theorem Tx.F_Jump_keeps (T : Tx K mg) : ∃ fd, FunD K "keeps" "Row.keeps" (defArgs s_Jump_keeps) (defBody s_Jump_keeps) (defScope s_Jump_keeps) [] [] (ma K (ga K "Jump") "keeps") fd := T.c.1.def_ 76 rfl
theorem Tx.kp_Jump_keeps (T : Tx K mg) : PySem.W.keepIn K (.ref (ma K (ga K "Jump") "keeps")) = true := (T.F_Jump_keeps).elim fun _ F => F.kp
theorem Tx.F_Jump_runs (T : Tx K mg) : ∃ fd, FunD K "runs" "Jump.runs" (defArgs s_Jump_runs) (defBody s_Jump_runs) (defScope s_Jump_runs) [] [] (ma K (ga K "Jump") "runs") fd := T.c.1.def_ 77 rfl
theorem Tx.kp_Jump_runs (T : Tx K mg) : PySem.W.keepIn K (.ref (ma K (ga K "Jump") "runs")) = true := (T.F_Jump_runs).elim fun _ F => F.kp
theorem Tx.F_Branch_init (T : Tx K mg) : ∃ fd, FunD K "__init__" "Branch.__init__" (defArgs s_Branch_init) (defBody s_Branch_init) (defScope s_Branch_init) [] [] (ma K (ga K "Branch") "__init__") fd := T.c.1.def_ 78 rfl
theorem Tx.kp_Branch_init (T : Tx K mg) : PySem.W.keepIn K (.ref (ma K (ga K "Branch") "__init__")) = true := (T.F_Branch_init).elim fun _ F => F.kp
theorem Tx.F_Branch_goes (T : Tx K mg) : ∃ fd, FunD K "goes" "Branch.goes" (defArgs s_Branch_goes) (defBody s_Branch_goes) (defScope s_Branch_goes) [] [] (ma K (ga K "Branch") "goes") fd := T.c.1.def_ 79 rfl
theorem Tx.kp_Branch_goes (T : Tx K mg) : PySem.W.keepIn K (.ref (ma K (ga K "Branch") "goes")) = true := (T.F_Branch_goes).elim fun _ F => F.kp
theorem Tx.F_Branch_height (T : Tx K mg) : ∃ fd, FunD K "height" "Row.height" (defArgs s_Branch_height) (defBody s_Branch_height) (defScope s_Branch_height) [] [] (ma K (ga K "Branch") "height") fd := T.c.1.def_ 80 rfl
theorem Tx.kp_Branch_height (T : Tx K mg) : PySem.W.keepIn K (.ref (ma K (ga K "Branch") "height")) = true := (T.F_Branch_height).elim fun _ F => F.kp
theorem Tx.F_Branch_keeps (T : Tx K mg) : ∃ fd, FunD K "keeps" "Row.keeps" (defArgs s_Branch_keeps) (defBody s_Branch_keeps) (defScope s_Branch_keeps) [] [] (ma K (ga K "Branch") "keeps") fd := T.c.1.def_ 81 rfl
theorem Tx.kp_Branch_keeps (T : Tx K mg) : PySem.W.keepIn K (.ref (ma K (ga K "Branch") "keeps")) = true := (T.F_Branch_keeps).elim fun _ F => F.kp
theorem Tx.F_Branch_runs (T : Tx K mg) : ∃ fd, FunD K "runs" "Branch.runs" (defArgs s_Branch_runs) (defBody s_Branch_runs) (defScope s_Branch_runs) [] [] (ma K (ga K "Branch") "runs") fd := T.c.1.def_ 82 rfl
theorem Tx.kp_Branch_runs (T : Tx K mg) : PySem.W.keepIn K (.ref (ma K (ga K "Branch") "runs")) = true := (T.F_Branch_runs).elim fun _ F => F.kp
theorem Tx.F_Call_init (T : Tx K mg) : ∃ fd, FunD K "__init__" "Call.__init__" (defArgs s_Call_init) (defBody s_Call_init) (defScope s_Call_init) [] [] (ma K (ga K "Call") "__init__") fd := T.c.1.def_ 83 rfl
theorem Tx.kp_Call_init (T : Tx K mg) : PySem.W.keepIn K (.ref (ma K (ga K "Call") "__init__")) = true := (T.F_Call_init).elim fun _ F => F.kp
theorem Tx.F_Call_goes (T : Tx K mg) : ∃ fd, FunD K "goes" "Row.goes" (defArgs s_Call_goes) (defBody s_Call_goes) (defScope s_Call_goes) [] [] (ma K (ga K "Call") "goes") fd := T.c.1.def_ 84 rfl
theorem Tx.kp_Call_goes (T : Tx K mg) : PySem.W.keepIn K (.ref (ma K (ga K "Call") "goes")) = true := (T.F_Call_goes).elim fun _ F => F.kp
theorem Tx.F_Call_height (T : Tx K mg) : ∃ fd, FunD K "height" "Row.height" (defArgs s_Call_height) (defBody s_Call_height) (defScope s_Call_height) [] [] (ma K (ga K "Call") "height") fd := T.c.1.def_ 85 rfl
theorem Tx.kp_Call_height (T : Tx K mg) : PySem.W.keepIn K (.ref (ma K (ga K "Call") "height")) = true := (T.F_Call_height).elim fun _ F => F.kp
theorem Tx.F_Call_keeps (T : Tx K mg) : ∃ fd, FunD K "keeps" "Call.keeps" (defArgs s_Call_keeps) (defBody s_Call_keeps) (defScope s_Call_keeps) [] [] (ma K (ga K "Call") "keeps") fd := T.c.1.def_ 86 rfl
theorem Tx.kp_Call_keeps (T : Tx K mg) : PySem.W.keepIn K (.ref (ma K (ga K "Call") "keeps")) = true := (T.F_Call_keeps).elim fun _ F => F.kp
theorem Tx.F_Call_runs (T : Tx K mg) : ∃ fd, FunD K "runs" "Call.runs" (defArgs s_Call_runs) (defBody s_Call_runs) (defScope s_Call_runs) [] [] (ma K (ga K "Call") "runs") fd := T.c.1.def_ 87 rfl
theorem Tx.kp_Call_runs (T : Tx K mg) : PySem.W.keepIn K (.ref (ma K (ga K "Call") "runs")) = true := (T.F_Call_runs).elim fun _ F => F.kp
theorem Tx.F_Back_init (T : Tx K mg) : ∃ fd, FunD K "__init__" "Back.__init__" (defArgs s_Back_init) (defBody s_Back_init) (defScope s_Back_init) [] [] (ma K (ga K "Back") "__init__") fd := T.c.1.def_ 88 rfl
theorem Tx.kp_Back_init (T : Tx K mg) : PySem.W.keepIn K (.ref (ma K (ga K "Back") "__init__")) = true := (T.F_Back_init).elim fun _ F => F.kp
theorem Tx.F_Back_goes (T : Tx K mg) : ∃ fd, FunD K "goes" "Back.goes" (defArgs s_Back_goes) (defBody s_Back_goes) (defScope s_Back_goes) [] [] (ma K (ga K "Back") "goes") fd := T.c.1.def_ 89 rfl
theorem Tx.kp_Back_goes (T : Tx K mg) : PySem.W.keepIn K (.ref (ma K (ga K "Back") "goes")) = true := (T.F_Back_goes).elim fun _ F => F.kp
theorem Tx.F_Back_height (T : Tx K mg) : ∃ fd, FunD K "height" "Row.height" (defArgs s_Back_height) (defBody s_Back_height) (defScope s_Back_height) [] [] (ma K (ga K "Back") "height") fd := T.c.1.def_ 90 rfl
theorem Tx.kp_Back_height (T : Tx K mg) : PySem.W.keepIn K (.ref (ma K (ga K "Back") "height")) = true := (T.F_Back_height).elim fun _ F => F.kp
theorem Tx.F_Back_keeps (T : Tx K mg) : ∃ fd, FunD K "keeps" "Row.keeps" (defArgs s_Back_keeps) (defBody s_Back_keeps) (defScope s_Back_keeps) [] [] (ma K (ga K "Back") "keeps") fd := T.c.1.def_ 91 rfl
theorem Tx.kp_Back_keeps (T : Tx K mg) : PySem.W.keepIn K (.ref (ma K (ga K "Back") "keeps")) = true := (T.F_Back_keeps).elim fun _ F => F.kp
theorem Tx.F_Back_runs (T : Tx K mg) : ∃ fd, FunD K "runs" "Back.runs" (defArgs s_Back_runs) (defBody s_Back_runs) (defScope s_Back_runs) [] [] (ma K (ga K "Back") "runs") fd := T.c.1.def_ 92 rfl
theorem Tx.kp_Back_runs (T : Tx K mg) : PySem.W.keepIn K (.ref (ma K (ga K "Back") "runs")) = true := (T.F_Back_runs).elim fun _ F => F.kp
theorem Tx.F_Drop_init (T : Tx K mg) : ∃ fd, FunD K "__init__" "Drop.__init__" (defArgs s_Drop_init) (defBody s_Drop_init) (defScope s_Drop_init) [] [] (ma K (ga K "Drop") "__init__") fd := T.c.1.def_ 93 rfl
theorem Tx.kp_Drop_init (T : Tx K mg) : PySem.W.keepIn K (.ref (ma K (ga K "Drop") "__init__")) = true := (T.F_Drop_init).elim fun _ F => F.kp
theorem Tx.F_Drop_goes (T : Tx K mg) : ∃ fd, FunD K "goes" "Drop.goes" (defArgs s_Drop_goes) (defBody s_Drop_goes) (defScope s_Drop_goes) [] [] (ma K (ga K "Drop") "goes") fd := T.c.1.def_ 94 rfl
theorem Tx.kp_Drop_goes (T : Tx K mg) : PySem.W.keepIn K (.ref (ma K (ga K "Drop") "goes")) = true := (T.F_Drop_goes).elim fun _ F => F.kp
theorem Tx.F_Drop_height (T : Tx K mg) : ∃ fd, FunD K "height" "Row.height" (defArgs s_Drop_height) (defBody s_Drop_height) (defScope s_Drop_height) [] [] (ma K (ga K "Drop") "height") fd := T.c.1.def_ 95 rfl
theorem Tx.kp_Drop_height (T : Tx K mg) : PySem.W.keepIn K (.ref (ma K (ga K "Drop") "height")) = true := (T.F_Drop_height).elim fun _ F => F.kp
theorem Tx.F_Drop_keeps (T : Tx K mg) : ∃ fd, FunD K "keeps" "Row.keeps" (defArgs s_Drop_keeps) (defBody s_Drop_keeps) (defScope s_Drop_keeps) [] [] (ma K (ga K "Drop") "keeps") fd := T.c.1.def_ 96 rfl
theorem Tx.kp_Drop_keeps (T : Tx K mg) : PySem.W.keepIn K (.ref (ma K (ga K "Drop") "keeps")) = true := (T.F_Drop_keeps).elim fun _ F => F.kp
theorem Tx.F_Drop_runs (T : Tx K mg) : ∃ fd, FunD K "runs" "Drop.runs" (defArgs s_Drop_runs) (defBody s_Drop_runs) (defScope s_Drop_runs) [] [] (ma K (ga K "Drop") "runs") fd := T.c.1.def_ 97 rfl
theorem Tx.kp_Drop_runs (T : Tx K mg) : PySem.W.keepIn K (.ref (ma K (ga K "Drop") "runs")) = true := (T.F_Drop_runs).elim fun _ F => F.kp
theorem Tx.F_Fill_init (T : Tx K mg) : ∃ fd, FunD K "__init__" "Fill.__init__" (defArgs s_Fill_init) (defBody s_Fill_init) (defScope s_Fill_init) [] [] (ma K (ga K "Fill") "__init__") fd := T.c.1.def_ 98 rfl
theorem Tx.kp_Fill_init (T : Tx K mg) : PySem.W.keepIn K (.ref (ma K (ga K "Fill") "__init__")) = true := (T.F_Fill_init).elim fun _ F => F.kp
theorem Tx.F_Table_init (T : Tx K mg) : ∃ fd, FunD K "__init__" "Table.__init__" (defArgs s_Table_init) (defBody s_Table_init) (defScope s_Table_init) [.non] [] (ma K (ga K "Table") "__init__") fd := T.c.1.def_ 99 rfl
theorem Tx.kp_Table_init (T : Tx K mg) : PySem.W.keepIn K (.ref (ma K (ga K "Table") "__init__")) = true := (T.F_Table_init).elim fun _ F => F.kp
theorem Tx.F_Machine_init (T : Tx K mg) : ∃ fd, FunD K "__init__" "Machine.__init__" (defArgs s_Machine_init) (defBody s_Machine_init) (defScope s_Machine_init) [.int 0] [] (ma K (ga K "Machine") "__init__") fd := T.c.1.def_ 100 rfl
theorem Tx.kp_Machine_init (T : Tx K mg) : PySem.W.keepIn K (.ref (ma K (ga K "Machine") "__init__")) = true := (T.F_Machine_init).elim fun _ F => F.kp
theorem Tx.F_Machine_at (T : Tx K mg) : ∃ fd, FunD K "at" "Machine.at" (defArgs s_Machine_at) (defBody s_Machine_at) (defScope s_Machine_at) [] [] (ma K (ga K "Machine") "at") fd := T.c.1.def_ 101 rfl
theorem Tx.kp_Machine_at (T : Tx K mg) : PySem.W.keepIn K (.ref (ma K (ga K "Machine") "at")) = true := (T.F_Machine_at).elim fun _ F => F.kp
theorem Tx.F_Machine_boxes (T : Tx K mg) : ∃ fd, FunD K "boxes" "Machine.boxes" (defArgs s_Machine_boxes) (defBody s_Machine_boxes) (defScope s_Machine_boxes) [] [] (ma K (ga K "Machine") "boxes") fd := T.c.1.def_ 102 rfl
theorem Tx.kp_Machine_boxes (T : Tx K mg) : PySem.W.keepIn K (.ref (ma K (ga K "Machine") "boxes")) = true := (T.F_Machine_boxes).elim fun _ F => F.kp
theorem Tx.F_Machine_pile (T : Tx K mg) : ∃ fd, FunD K "pile" "Machine.pile" (defArgs s_Machine_pile) (defBody s_Machine_pile) (defScope s_Machine_pile) [] [] (ma K (ga K "Machine") "pile") fd := T.c.1.def_ 103 rfl
theorem Tx.kp_Machine_pile (T : Tx K mg) : PySem.W.keepIn K (.ref (ma K (ga K "Machine") "pile")) = true := (T.F_Machine_pile).elim fun _ F => F.kp
theorem Tx.F_Machine_word (T : Tx K mg) : ∃ fd, FunD K "word" "Machine.word" (defArgs s_Machine_word) (defBody s_Machine_word) (defScope s_Machine_word) [] [] (ma K (ga K "Machine") "word") fd := T.c.1.def_ 104 rfl
theorem Tx.kp_Machine_word (T : Tx K mg) : PySem.W.keepIn K (.ref (ma K (ga K "Machine") "word")) = true := (T.F_Machine_word).elim fun _ F => F.kp
theorem Tx.F_Machine_fault (T : Tx K mg) : ∃ fd, FunD K "fault" "Machine.fault" (defArgs s_Machine_fault) (defBody s_Machine_fault) (defScope s_Machine_fault) [] [] (ma K (ga K "Machine") "fault") fd := T.c.1.def_ 105 rfl
theorem Tx.kp_Machine_fault (T : Tx K mg) : PySem.W.keepIn K (.ref (ma K (ga K "Machine") "fault")) = true := (T.F_Machine_fault).elim fun _ F => F.kp
theorem Tx.F_Machine_step (T : Tx K mg) : ∃ fd, FunD K "step" "Machine.step" (defArgs s_Machine_step) (defBody s_Machine_step) (defScope s_Machine_step) [] [] (ma K (ga K "Machine") "step") fd := T.c.1.def_ 106 rfl
theorem Tx.kp_Machine_step (T : Tx K mg) : PySem.W.keepIn K (.ref (ma K (ga K "Machine") "step")) = true := (T.F_Machine_step).elim fun _ F => F.kp
theorem Tx.F_Machine_go_on (T : Tx K mg) : ∃ fd, FunD K "go_on" "Machine.go_on" (defArgs s_Machine_go_on) (defBody s_Machine_go_on) (defScope s_Machine_go_on) [] [] (ma K (ga K "Machine") "go_on") fd := T.c.1.def_ 107 rfl
theorem Tx.kp_Machine_go_on (T : Tx K mg) : PySem.W.keepIn K (.ref (ma K (ga K "Machine") "go_on")) = true := (T.F_Machine_go_on).elim fun _ F => F.kp
theorem Tx.F_Machine_drop (T : Tx K mg) : ∃ fd, FunD K "drop" "Machine.drop" (defArgs s_Machine_drop) (defBody s_Machine_drop) (defScope s_Machine_drop) [] [] (ma K (ga K "Machine") "drop") fd := T.c.1.def_ 108 rfl
theorem Tx.kp_Machine_drop (T : Tx K mg) : PySem.W.keepIn K (.ref (ma K (ga K "Machine") "drop")) = true := (T.F_Machine_drop).elim fun _ F => F.kp
theorem Tx.F_Machine_land (T : Tx K mg) : ∃ fd, FunD K "land" "Machine.land" (defArgs s_Machine_land) (defBody s_Machine_land) (defScope s_Machine_land) [] [] (ma K (ga K "Machine") "land") fd := T.c.1.def_ 109 rfl
theorem Tx.kp_Machine_land (T : Tx K mg) : PySem.W.keepIn K (.ref (ma K (ga K "Machine") "land")) = true := (T.F_Machine_land).elim fun _ F => F.kp
end
end Fb

set_option Elab.async false
set_option linter.all false
set_option maxRecDepth 100000
set_option maxHeartbeats 4000000
/-! each def's scope, by slots; how its arguments bind -/
namespace Fb
open PySem PySem.Spec PyProof.Rows L2
open He (ga ma)
abbrev N_lying : List Str := ["places", "row", "entry", "boxes", "pile", "length", "low"]
theorem sc_lying : FnScope N_lying ["places", "row", "entry", "boxes", "pile", "length"] (defScope s_lying) := ⟨rfl, rfl, rfl, by decide +kernel, rfl, by decide +kernel, by decide +kernel⟩
theorem hb_lying : ∀ (kV doc pm : Value) (an : Option Addr) (cdv ct : Value) (us : List Value), us.length = (["places", "row", "entry", "boxes", "pile", "length"] : List Str).length → bindArgs (PySem.W.fnOf "lying" "lying" (defArgs s_lying) (defBody s_lying) (defScope s_lying) .none kV doc pm an cdv ct) ⟨us, []⟩ = pure ((["places", "row", "entry", "boxes", "pile", "length"] : List Str).zip us) := fun _ _ _ _ _ _ us hl => match us, hl with | [_, _, _, _, _, _], _ => rfl
abbrev N_one_up : List Str := ["table", "row", "boxes", "pile", "length", "entry", "back", "kept", "places"]
theorem sc_one_up : FnScope N_one_up ["table", "row", "boxes", "pile", "length"] (defScope s_one_up) := ⟨rfl, rfl, rfl, by decide +kernel, rfl, by decide +kernel, by decide +kernel⟩
theorem hb_one_up : ∀ (kV doc pm : Value) (an : Option Addr) (cdv ct : Value) (us : List Value), us.length = (["table", "row", "boxes", "pile", "length"] : List Str).length → bindArgs (PySem.W.fnOf "one_up" "one_up" (defArgs s_one_up) (defBody s_one_up) (defScope s_one_up) .none kV doc pm an cdv ct) ⟨us, []⟩ = pure ((["table", "row", "boxes", "pile", "length"] : List Str).zip us) := fun _ _ _ _ _ _ us hl => match us, hl with | [_, _, _, _, _], _ => rfl
abbrev N_callers : List Str := ["table", "row", "boxes", "pile", "found", "length", "kept"]
theorem sc_callers : FnScope N_callers ["table", "row", "boxes", "pile"] (defScope s_callers) := ⟨rfl, rfl, rfl, by decide +kernel, rfl, by decide +kernel, by decide +kernel⟩
theorem hb_callers : ∀ (kV doc pm : Value) (an : Option Addr) (cdv ct : Value) (us : List Value), us.length = (["table", "row", "boxes", "pile"] : List Str).length → bindArgs (PySem.W.fnOf "callers" "callers" (defArgs s_callers) (defBody s_callers) (defScope s_callers) .none kV doc pm an cdv ct) ⟨us, []⟩ = pure ((["table", "row", "boxes", "pile"] : List Str).zip us) := fun _ _ _ _ _ _ us hl => match us, hl with | [_, _, _, _], _ => rfl
abbrev N_within : List Str := ["number", "most"]
theorem sc_within : FnScope N_within ["number", "most"] (defScope s_within) := ⟨rfl, rfl, rfl, by decide +kernel, rfl, by decide +kernel, by decide +kernel⟩
theorem hb_within : ∀ (kV doc pm : Value) (an : Option Addr) (cdv ct : Value) (us : List Value), us.length = (["number", "most"] : List Str).length → bindArgs (PySem.W.fnOf "within" "within" (defArgs s_within) (defBody s_within) (defScope s_within) .none kV doc pm an cdv ct) ⟨us, []⟩ = pure ((["number", "most"] : List Str).zip us) := fun _ _ _ _ _ _ us hl => match us, hl with | [_, _], _ => rfl
abbrev N_with_value : List Str := ["boxes", "box", "value", "found"]
theorem sc_with_value : FnScope N_with_value ["boxes", "box", "value"] (defScope s_with_value) := ⟨rfl, rfl, rfl, by decide +kernel, rfl, by decide +kernel, by decide +kernel⟩
theorem hb_with_value : ∀ (kV doc pm : Value) (an : Option Addr) (cdv ct : Value) (us : List Value), us.length = (["boxes", "box", "value"] : List Str).length → bindArgs (PySem.W.fnOf "with_value" "with_value" (defArgs s_with_value) (defBody s_with_value) (defScope s_with_value) .none kV doc pm an cdv ct) ⟨us, []⟩ = pure ((["boxes", "box", "value"] : List Str).zip us) := fun _ _ _ _ _ _ us hl => match us, hl with | [_, _, _], _ => rfl
abbrev N_without : List Str := ["places", "place"]
theorem sc_without : FnScope N_without ["places", "place"] (defScope s_without) := ⟨rfl, rfl, rfl, by decide +kernel, rfl, by decide +kernel, by decide +kernel⟩
theorem hb_without : ∀ (kV doc pm : Value) (an : Option Addr) (cdv ct : Value) (us : List Value), us.length = (["places", "place"] : List Str).length → bindArgs (PySem.W.fnOf "without" "without" (defArgs s_without) (defBody s_without) (defScope s_without) .none kV doc pm an cdv ct) ⟨us, []⟩ = pure ((["places", "place"] : List Str).zip us) := fun _ _ _ _ _ _ us hl => match us, hl with | [_, _], _ => rfl
abbrev N_followed : List Str := ["places", "source", "place"]
theorem sc_followed : FnScope N_followed ["places", "source", "place"] (defScope s_followed) := ⟨rfl, rfl, rfl, by decide +kernel, rfl, by decide +kernel, by decide +kernel⟩
theorem hb_followed : ∀ (kV doc pm : Value) (an : Option Addr) (cdv ct : Value) (us : List Value), us.length = (["places", "source", "place"] : List Str).length → bindArgs (PySem.W.fnOf "followed" "followed" (defArgs s_followed) (defBody s_followed) (defScope s_followed) .none kV doc pm an cdv ct) ⟨us, []⟩ = pure ((["places", "source", "place"] : List Str).zip us) := fun _ _ _ _ _ _ us hl => match us, hl with | [_, _, _], _ => rfl
abbrev N_bit_of : List Str := ["cell", "high"]
theorem sc_bit_of : FnScope N_bit_of ["cell", "high"] (defScope s_bit_of) := ⟨rfl, rfl, rfl, by decide +kernel, rfl, by decide +kernel, by decide +kernel⟩
theorem hb_bit_of : ∀ (kV doc pm : Value) (an : Option Addr) (cdv ct : Value) (us : List Value), us.length = (["cell", "high"] : List Str).length → bindArgs (PySem.W.fnOf "bit_of" "bit_of" (defArgs s_bit_of) (defBody s_bit_of) (defScope s_bit_of) .none kV doc pm an cdv ct) ⟨us, []⟩ = pure ((["cell", "high"] : List Str).zip us) := fun _ _ _ _ _ _ us hl => match us, hl with | [_, _], _ => rfl
abbrev N_is_set : List Str := ["places", "height"]
theorem sc_is_set : FnScope N_is_set ["places", "height"] (defScope s_is_set) := ⟨rfl, rfl, rfl, by decide +kernel, rfl, by decide +kernel, by decide +kernel⟩
theorem hb_is_set : ∀ (kV doc pm : Value) (an : Option Addr) (cdv ct : Value) (us : List Value), us.length = (["places", "height"] : List Str).length → bindArgs (PySem.W.fnOf "is_set" "is_set" (defArgs s_is_set) (defBody s_is_set) (defScope s_is_set) .none kV doc pm an cdv ct) ⟨us, []⟩ = pure ((["places", "height"] : List Str).zip us) := fun _ _ _ _ _ _ us hl => match us, hl with | [_, _], _ => rfl
abbrev N_is_entry : List Str := ["entry", "places"]
theorem sc_is_entry : FnScope N_is_entry ["entry"] (defScope s_is_entry) := ⟨rfl, rfl, rfl, by decide +kernel, rfl, by decide +kernel, by decide +kernel⟩
theorem hb_is_entry : ∀ (kV doc pm : Value) (an : Option Addr) (cdv ct : Value) (us : List Value), us.length = (["entry"] : List Str).length → bindArgs (PySem.W.fnOf "is_entry" "is_entry" (defArgs s_is_entry) (defBody s_is_entry) (defScope s_is_entry) .none kV doc pm an cdv ct) ⟨us, []⟩ = pure ((["entry"] : List Str).zip us) := fun _ _ _ _ _ _ us hl => match us, hl with | [_], _ => rfl
abbrev N_may_go_back : List Str := ["box", "entry", "places", "own"]
theorem sc_may_go_back : FnScope N_may_go_back ["box", "entry"] (defScope s_may_go_back) := ⟨rfl, rfl, rfl, by decide +kernel, rfl, by decide +kernel, by decide +kernel⟩
theorem hb_may_go_back : ∀ (kV doc pm : Value) (an : Option Addr) (cdv ct : Value) (us : List Value), us.length = (["box", "entry"] : List Str).length → bindArgs (PySem.W.fnOf "may_go_back" "may_go_back" (defArgs s_may_go_back) (defBody s_may_go_back) (defScope s_may_go_back) .none kV doc pm an cdv ct) ⟨us, []⟩ = pure ((["box", "entry"] : List Str).zip us) := fun _ _ _ _ _ _ us hl => match us, hl with | [_, _], _ => rfl
abbrev N_own_complaint : List Str := ["row", "entry"]
theorem sc_own_complaint : FnScope N_own_complaint ["row", "entry"] (defScope s_own_complaint) := ⟨rfl, rfl, rfl, by decide +kernel, rfl, by decide +kernel, by decide +kernel⟩
theorem hb_own_complaint : ∀ (kV doc pm : Value) (an : Option Addr) (cdv ct : Value) (us : List Value), us.length = (["row", "entry"] : List Str).length → bindArgs (PySem.W.fnOf "own_complaint" "own_complaint" (defArgs s_own_complaint) (defBody s_own_complaint) (defScope s_own_complaint) .none kV doc pm an cdv ct) ⟨us, []⟩ = pure ((["row", "entry"] : List Str).zip us) := fun _ _ _ _ _ _ us hl => match us, hl with | [_, _], _ => rfl
abbrev N_unlike : List Str := ["row", "entry", "other", "k"]
theorem sc_unlike : FnScope N_unlike ["row", "entry", "other"] (defScope s_unlike) := ⟨rfl, rfl, rfl, by decide +kernel, rfl, by decide +kernel, by decide +kernel⟩
theorem hb_unlike : ∀ (kV doc pm : Value) (an : Option Addr) (cdv ct : Value) (us : List Value), us.length = (["row", "entry", "other"] : List Str).length → bindArgs (PySem.W.fnOf "unlike" "unlike" (defArgs s_unlike) (defBody s_unlike) (defScope s_unlike) .none kV doc pm an cdv ct) ⟨us, []⟩ = pure ((["row", "entry", "other"] : List Str).zip us) := fun _ _ _ _ _ _ us hl => match us, hl with | [_, _, _], _ => rfl
abbrev N_onward : List Str := ["code", "table", "at", "row", "found", "known", "place", "what"]
theorem sc_onward : FnScope N_onward ["code", "table", "at"] (defScope s_onward) := ⟨rfl, rfl, rfl, by decide +kernel, rfl, by decide +kernel, by decide +kernel⟩
theorem hb_onward : ∀ (kV doc pm : Value) (an : Option Addr) (cdv ct : Value) (us : List Value), us.length = (["code", "table", "at"] : List Str).length → bindArgs (PySem.W.fnOf "onward" "onward" (defArgs s_onward) (defBody s_onward) (defScope s_onward) .none kV doc pm an cdv ct) ⟨us, []⟩ = pure ((["code", "table", "at"] : List Str).zip us) := fun _ _ _ _ _ _ us hl => match us, hl with | [_, _, _], _ => rfl
abbrev N_landed : List Str := ["code", "table", "at", "place", "entry", "what"]
theorem sc_landed : FnScope N_landed ["code", "table", "at"] (defScope s_landed) := ⟨rfl, rfl, rfl, by decide +kernel, rfl, by decide +kernel, by decide +kernel⟩
theorem hb_landed : ∀ (kV doc pm : Value) (an : Option Addr) (cdv ct : Value) (us : List Value), us.length = (["code", "table", "at"] : List Str).length → bindArgs (PySem.W.fnOf "landed" "landed" (defArgs s_landed) (defBody s_landed) (defScope s_landed) .none kV doc pm an cdv ct) ⟨us, []⟩ = pure ((["code", "table", "at"] : List Str).zip us) := fun _ _ _ _ _ _ us hl => match us, hl with | [_, _, _], _ => rfl
abbrev N_checked : List Str := ["code", "table", "found", "at", "row", "entry", "what"]
theorem sc_checked : FnScope N_checked ["code", "table"] (defScope s_checked) := ⟨rfl, rfl, rfl, by decide +kernel, rfl, by decide +kernel, by decide +kernel⟩
theorem hb_checked : ∀ (kV doc pm : Value) (an : Option Addr) (cdv ct : Value) (us : List Value), us.length = (["code", "table"] : List Str).length → bindArgs (PySem.W.fnOf "checked" "checked" (defArgs s_checked) (defBody s_checked) (defScope s_checked) .none kV doc pm an cdv ct) ⟨us, []⟩ = pure ((["code", "table"] : List Str).zip us) := fun _ _ _ _ _ _ us hl => match us, hl with | [_, _], _ => rfl
abbrev N_entry_behind : List Str := ["row", "entry", "high", "kept", "places"]
theorem sc_entry_behind : FnScope N_entry_behind ["row", "entry"] (defScope s_entry_behind) := ⟨rfl, rfl, rfl, by decide +kernel, rfl, by decide +kernel, by decide +kernel⟩
theorem hb_entry_behind : ∀ (kV doc pm : Value) (an : Option Addr) (cdv ct : Value) (us : List Value), us.length = (["row", "entry"] : List Str).length → bindArgs (PySem.W.fnOf "entry_behind" "entry_behind" (defArgs s_entry_behind) (defBody s_entry_behind) (defScope s_entry_behind) .none kV doc pm an cdv ct) ⟨us, []⟩ = pure ((["row", "entry"] : List Str).zip us) := fun _ _ _ _ _ _ us hl => match us, hl with | [_, _], _ => rfl
abbrev N_entry_of_both : List Str := ["one", "other", "kept", "k"]
theorem sc_entry_of_both : FnScope N_entry_of_both ["one", "other"] (defScope s_entry_of_both) := ⟨rfl, rfl, rfl, by decide +kernel, rfl, by decide +kernel, by decide +kernel⟩
theorem hb_entry_of_both : ∀ (kV doc pm : Value) (an : Option Addr) (cdv ct : Value) (us : List Value), us.length = (["one", "other"] : List Str).length → bindArgs (PySem.W.fnOf "entry_of_both" "entry_of_both" (defArgs s_entry_of_both) (defBody s_entry_of_both) (defScope s_entry_of_both) .none kV doc pm an cdv ct) ⟨us, []⟩ = pure ((["one", "other"] : List Str).zip us) := fun _ _ _ _ _ _ us hl => match us, hl with | [_, _], _ => rfl
abbrev N_ways_from : List Str := ["code", "at", "entry", "landings", "row", "left", "found", "place"]
theorem sc_ways_from : FnScope N_ways_from ["code", "at", "entry", "landings"] (defScope s_ways_from) := ⟨rfl, rfl, rfl, by decide +kernel, rfl, by decide +kernel, by decide +kernel⟩
theorem hb_ways_from : ∀ (kV doc pm : Value) (an : Option Addr) (cdv ct : Value) (us : List Value), us.length = (["code", "at", "entry", "landings"] : List Str).length → bindArgs (PySem.W.fnOf "ways_from" "ways_from" (defArgs s_ways_from) (defBody s_ways_from) (defScope s_ways_from) .none kV doc pm an cdv ct) ⟨us, []⟩ = pure ((["code", "at", "entry", "landings"] : List Str).zip us) := fun _ _ _ _ _ _ us hl => match us, hl with | [_, _, _, _], _ => rfl
abbrev N_guess : List Str := ["code", "landings", "some", "entries", "todo", "at", "place", "left", "known", "table", "row"]
theorem sc_guess : FnScope N_guess ["code", "landings"] (defScope s_guess) := ⟨rfl, rfl, rfl, by decide +kernel, rfl, by decide +kernel, by decide +kernel⟩
abbrev N_law_cell_at : List Str := ["_law_script", "_law_k"]
theorem sc_law_cell_at : FnScope N_law_cell_at ["_law_script", "_law_k"] (defScope s_law_cell_at) := ⟨rfl, rfl, rfl, by decide +kernel, rfl, by decide +kernel, by decide +kernel⟩
theorem hb_law_cell_at : ∀ (kV doc pm : Value) (an : Option Addr) (cdv ct : Value) (us : List Value), us.length = (["_law_script", "_law_k"] : List Str).length → bindArgs (PySem.W.fnOf "_law_cell_at" "_law_cell_at" (defArgs s_law_cell_at) (defBody s_law_cell_at) (defScope s_law_cell_at) .none kV doc pm an cdv ct) ⟨us, []⟩ = pure ((["_law_script", "_law_k"] : List Str).zip us) := fun _ _ _ _ _ _ us hl => match us, hl with | [_, _], _ => rfl
abbrev N_law_value : List Str := ["_law_cell"]
theorem sc_law_value : FnScope N_law_value ["_law_cell"] (defScope s_law_value) := ⟨rfl, rfl, rfl, by decide +kernel, rfl, by decide +kernel, by decide +kernel⟩
theorem hb_law_value : ∀ (kV doc pm : Value) (an : Option Addr) (cdv ct : Value) (us : List Value), us.length = (["_law_cell"] : List Str).length → bindArgs (PySem.W.fnOf "_law_value" "_law_value" (defArgs s_law_value) (defBody s_law_value) (defScope s_law_value) .none kV doc pm an cdv ct) ⟨us, []⟩ = pure ((["_law_cell"] : List Str).zip us) := fun _ _ _ _ _ _ us hl => match us, hl with | [_], _ => rfl
abbrev N_law_row : List Str := ["_law_told", "_law_word", "_law_box", "_law_part"]
theorem sc_law_row : FnScope N_law_row ["_law_told"] (defScope s_law_row) := ⟨rfl, rfl, rfl, by decide +kernel, rfl, by decide +kernel, by decide +kernel⟩
theorem hb_law_row : ∀ (kV doc pm : Value) (an : Option Addr) (cdv ct : Value) (us : List Value), us.length = (["_law_told"] : List Str).length → bindArgs (PySem.W.fnOf "_law_row" "_law_row" (defArgs s_law_row) (defBody s_law_row) (defScope s_law_row) .none kV doc pm an cdv ct) ⟨us, []⟩ = pure ((["_law_told"] : List Str).zip us) := fun _ _ _ _ _ _ us hl => match us, hl with | [_], _ => rfl
abbrev N_law_body : List Str := ["_law_cells", "_law_saved", "_law_spare", "_law_at", "_law_rows", "_law_cell", "_law_kind", "_law_box", "_law_kept", "_law_one"]
theorem sc_law_body : FnScope N_law_body ["_law_cells", "_law_saved", "_law_spare", "_law_at"] (defScope s_law_body) := ⟨rfl, rfl, rfl, by decide +kernel, rfl, by decide +kernel, by decide +kernel⟩
theorem hb_law_body : ∀ (kV doc pm : Value) (an : Option Addr) (cdv ct : Value) (us : List Value), us.length = (["_law_cells", "_law_saved", "_law_spare", "_law_at"] : List Str).length → bindArgs (PySem.W.fnOf "_law_body" "_law_body" (defArgs s_law_body) (defBody s_law_body) (defScope s_law_body) .none kV doc pm an cdv ct) ⟨us, []⟩ = pure ((["_law_cells", "_law_saved", "_law_spare", "_law_at"] : List Str).zip us) := fun _ _ _ _ _ _ us hl => match us, hl with | [_, _, _, _], _ => rfl
abbrev N_law_function : List Str := ["_law_cell", "_law_cells", "_law_at", "_law_saved", "_law_height", "_law_turn", "_law_places", "_law_spare", "_law_rows", "_law_cut", "_law_end", "_law_box", "_law_bit", "_law_k"]
theorem sc_law_function : FnScope N_law_function ["_law_cell", "_law_cells", "_law_at"] (defScope s_law_function) := ⟨rfl, rfl, rfl, by decide +kernel, rfl, by decide +kernel, by decide +kernel⟩
theorem hb_law_function : ∀ (kV doc pm : Value) (an : Option Addr) (cdv ct : Value) (us : List Value), us.length = (["_law_cell", "_law_cells", "_law_at"] : List Str).length → bindArgs (PySem.W.fnOf "_law_function" "_law_function" (defArgs s_law_function) (defBody s_law_function) (defScope s_law_function) .none kV doc pm an cdv ct) ⟨us, []⟩ = pure ((["_law_cell", "_law_cells", "_law_at"] : List Str).zip us) := fun _ _ _ _ _ _ us hl => match us, hl with | [_, _, _], _ => rfl
abbrev N_law_code : List Str := ["_law_script", "_law_many", "_law_rows", "_law_starts", "_law_landings", "_law_k", "_law_part", "_law_end", "_law_j", "_law_way", "_law_found", "_law_told"]
theorem sc_law_code : FnScope N_law_code ["_law_script"] (defScope s_law_code) := ⟨rfl, rfl, rfl, by decide +kernel, rfl, by decide +kernel, by decide +kernel⟩
theorem hb_law_code : ∀ (kV doc pm : Value) (an : Option Addr) (cdv ct : Value) (us : List Value), us.length = (["_law_script"] : List Str).length → bindArgs (PySem.W.fnOf "_law_code" "_law_code" (defArgs s_law_code) (defBody s_law_code) (defScope s_law_code) .none kV doc pm an cdv ct) ⟨us, []⟩ = pure ((["_law_script"] : List Str).zip us) := fun _ _ _ _ _ _ us hl => match us, hl with | [_], _ => rfl
abbrev N_law_any_row : List Str := ["_law_cell", "_law_many", "_law_kind", "_law_box", "_law_part"]
theorem sc_law_any_row : FnScope N_law_any_row ["_law_cell", "_law_many"] (defScope s_law_any_row) := ⟨rfl, rfl, rfl, by decide +kernel, rfl, by decide +kernel, by decide +kernel⟩
theorem hb_law_any_row : ∀ (kV doc pm : Value) (an : Option Addr) (cdv ct : Value) (us : List Value), us.length = (["_law_cell", "_law_many"] : List Str).length → bindArgs (PySem.W.fnOf "_law_any_row" "_law_any_row" (defArgs s_law_any_row) (defBody s_law_any_row) (defScope s_law_any_row) .none kV doc pm an cdv ct) ⟨us, []⟩ = pure ((["_law_cell", "_law_many"] : List Str).zip us) := fun _ _ _ _ _ _ us hl => match us, hl with | [_, _], _ => rfl
abbrev N_law_any_code : List Str := ["_law_script", "_law_many", "_law_rows", "_law_landings", "_law_cell", "_law_k"]
theorem sc_law_any_code : FnScope N_law_any_code ["_law_script"] (defScope s_law_any_code) := ⟨rfl, rfl, rfl, by decide +kernel, rfl, by decide +kernel, by decide +kernel⟩
theorem hb_law_any_code : ∀ (kV doc pm : Value) (an : Option Addr) (cdv ct : Value) (us : List Value), us.length = (["_law_script"] : List Str).length → bindArgs (PySem.W.fnOf "_law_any_code" "_law_any_code" (defArgs s_law_any_code) (defBody s_law_any_code) (defScope s_law_any_code) .none kV doc pm an cdv ct) ⟨us, []⟩ = pure ((["_law_script"] : List Str).zip us) := fun _ _ _ _ _ _ us hl => match us, hl with | [_], _ => rfl
abbrev N_law_table : List Str := ["_law_code_here", "_law_landings", "_law_table_here"]
theorem sc_law_table : FnScope N_law_table ["_law_code_here", "_law_landings"] (defScope s_law_table) := ⟨rfl, rfl, rfl, by decide +kernel, rfl, by decide +kernel, by decide +kernel⟩
theorem hb_law_table : ∀ (kV doc pm : Value) (an : Option Addr) (cdv ct : Value) (us : List Value), us.length = (["_law_code_here", "_law_landings"] : List Str).length → bindArgs (PySem.W.fnOf "_law_table" "_law_table" (defArgs s_law_table) (defBody s_law_table) (defScope s_law_table) .none kV doc pm an cdv ct) ⟨us, []⟩ = pure ((["_law_code_here", "_law_landings"] : List Str).zip us) := fun _ _ _ _ _ _ us hl => match us, hl with | [_, _], _ => rfl
abbrev N_law_landing : List Str := ["_law_calls", "_law_landings", "_law_k"]
theorem sc_law_landing : FnScope N_law_landing ["_law_calls", "_law_landings"] (defScope s_law_landing) := ⟨rfl, rfl, rfl, by decide +kernel, rfl, by decide +kernel, by decide +kernel⟩
theorem hb_law_landing : ∀ (kV doc pm : Value) (an : Option Addr) (cdv ct : Value) (us : List Value), us.length = (["_law_calls", "_law_landings"] : List Str).length → bindArgs (PySem.W.fnOf "_law_landing" "_law_landing" (defArgs s_law_landing) (defBody s_law_landing) (defScope s_law_landing) .none kV doc pm an cdv ct) ⟨us, []⟩ = pure ((["_law_calls", "_law_landings"] : List Str).zip us) := fun _ _ _ _ _ _ us hl => match us, hl with | [_, _], _ => rfl
abbrev N_law_as_then : List Str := ["_law_machine", "_law_told"]
theorem sc_law_as_then : FnScope N_law_as_then ["_law_machine", "_law_told"] (defScope s_law_as_then) := ⟨rfl, rfl, rfl, by decide +kernel, rfl, by decide +kernel, by decide +kernel⟩
theorem hb_law_as_then : ∀ (kV doc pm : Value) (an : Option Addr) (cdv ct : Value) (us : List Value), us.length = (["_law_machine", "_law_told"] : List Str).length → bindArgs (PySem.W.fnOf "_law_as_then" "_law_as_then" (defArgs s_law_as_then) (defBody s_law_as_then) (defScope s_law_as_then) .none kV doc pm an cdv ct) ⟨us, []⟩ = pure ((["_law_machine", "_law_told"] : List Str).zip us) := fun _ _ _ _ _ _ us hl => match us, hl with | [_, _], _ => rfl
abbrev N_law_landed : List Str := ["_law_machine", "_law_calls", "_law_landings", "_law_held", "_law_box", "_law_k", "_law_boxes"]
theorem sc_law_landed : FnScope N_law_landed ["_law_machine", "_law_calls", "_law_landings", "_law_held", "_law_box"] (defScope s_law_landed) := ⟨rfl, rfl, rfl, by decide +kernel, rfl, by decide +kernel, by decide +kernel⟩
theorem hb_law_landed : ∀ (kV doc pm : Value) (an : Option Addr) (cdv ct : Value) (us : List Value), us.length = (["_law_machine", "_law_calls", "_law_landings", "_law_held", "_law_box"] : List Str).length → bindArgs (PySem.W.fnOf "_law_landed" "_law_landed" (defArgs s_law_landed) (defBody s_law_landed) (defScope s_law_landed) .none kV doc pm an cdv ct) ⟨us, []⟩ = pure ((["_law_machine", "_law_calls", "_law_landings", "_law_held", "_law_box"] : List Str).zip us) := fun _ _ _ _ _ _ us hl => match us, hl with | [_, _, _, _, _], _ => rfl
abbrev N_law_back : List Str := ["_law_machine", "_law_calls", "_law_home"]
theorem sc_law_back : FnScope N_law_back ["_law_machine", "_law_calls", "_law_home"] (defScope s_law_back) := ⟨rfl, rfl, rfl, by decide +kernel, rfl, by decide +kernel, by decide +kernel⟩
theorem hb_law_back : ∀ (kV doc pm : Value) (an : Option Addr) (cdv ct : Value) (us : List Value), us.length = (["_law_machine", "_law_calls", "_law_home"] : List Str).length → bindArgs (PySem.W.fnOf "_law_back" "_law_back" (defArgs s_law_back) (defBody s_law_back) (defScope s_law_back) .none kV doc pm an cdv ct) ⟨us, []⟩ = pure ((["_law_machine", "_law_calls", "_law_home"] : List Str).zip us) := fun _ _ _ _ _ _ us hl => match us, hl with | [_, _, _], _ => rfl
abbrev N_law : List Str := ["_law_script", "_law_rows", "_law_landings", "_law_code_here", "_law_table_here", "_law_boxes", "_law_machine", "_law_calls", "_law_k", "_law_told", "_law_held", "_law_then"]
theorem sc_law : FnScope N_law ["_law_script"] (defScope s_law) := ⟨rfl, rfl, rfl, by decide +kernel, rfl, by decide +kernel, by decide +kernel⟩
theorem hb_law : ∀ (kV doc pm : Value) (an : Option Addr) (cdv ct : Value) (us : List Value), us.length = (["_law_script"] : List Str).length → bindArgs (PySem.W.fnOf "law" "law" (defArgs s_law) (defBody s_law) (defScope s_law) .none kV doc pm an cdv ct) ⟨us, []⟩ = pure ((["_law_script"] : List Str).zip us) := fun _ _ _ _ _ _ us hl => match us, hl with | [_], _ => rfl
abbrev N_Set_init : List Str := ["self", "box", "number"]
theorem sc_Set_init : FnScope N_Set_init ["self", "box", "number"] (defScope s_Set_init) := ⟨rfl, rfl, rfl, by decide +kernel, rfl, by decide +kernel, by decide +kernel⟩
theorem hb_Set_init : ∀ (kV doc pm : Value) (an : Option Addr) (cdv ct : Value) (us : List Value), us.length = (["self", "box", "number"] : List Str).length → bindArgs (PySem.W.fnOf "__init__" "Set.__init__" (defArgs s_Set_init) (defBody s_Set_init) (defScope s_Set_init) .none kV doc pm an cdv ct) ⟨us, []⟩ = pure ((["self", "box", "number"] : List Str).zip us) := fun _ _ _ _ _ _ us hl => match us, hl with | [_, _, _], _ => rfl
abbrev s_Row_goes : Stmt := (inClass (top 25) 4)
abbrev N_Row_goes : List Str := ["self", "at"]
theorem sc_Row_goes : FnScope N_Row_goes ["self", "at"] (defScope s_Row_goes) := ⟨rfl, rfl, rfl, by decide +kernel, rfl, by decide +kernel, by decide +kernel⟩
theorem hb_Row_goes : ∀ (kV doc pm : Value) (an : Option Addr) (cdv ct : Value) (us : List Value), us.length = (["self", "at"] : List Str).length → bindArgs (PySem.W.fnOf "goes" "Row.goes" (defArgs s_Row_goes) (defBody s_Row_goes) (defScope s_Row_goes) .none kV doc pm an cdv ct) ⟨us, []⟩ = pure ((["self", "at"] : List Str).zip us) := fun _ _ _ _ _ _ us hl => match us, hl with | [_, _], _ => rfl
abbrev s_Row_height : Stmt := (inClass (top 25) 5)
abbrev N_Row_height : List Str := ["self", "high"]
theorem sc_Row_height : FnScope N_Row_height ["self", "high"] (defScope s_Row_height) := ⟨rfl, rfl, rfl, by decide +kernel, rfl, by decide +kernel, by decide +kernel⟩
theorem hb_Row_height : ∀ (kV doc pm : Value) (an : Option Addr) (cdv ct : Value) (us : List Value), us.length = (["self", "high"] : List Str).length → bindArgs (PySem.W.fnOf "height" "Row.height" (defArgs s_Row_height) (defBody s_Row_height) (defScope s_Row_height) .none kV doc pm an cdv ct) ⟨us, []⟩ = pure ((["self", "high"] : List Str).zip us) := fun _ _ _ _ _ _ us hl => match us, hl with | [_, _], _ => rfl
abbrev s_Fill_keeps : Stmt := (inClass (top 26) 2)
abbrev N_Fill_keeps : List Str := ["self", "places", "high"]
theorem sc_Fill_keeps : FnScope N_Fill_keeps ["self", "places", "high"] (defScope s_Fill_keeps) := ⟨rfl, rfl, rfl, by decide +kernel, rfl, by decide +kernel, by decide +kernel⟩
theorem hb_Fill_keeps : ∀ (kV doc pm : Value) (an : Option Addr) (cdv ct : Value) (us : List Value), us.length = (["self", "places", "high"] : List Str).length → bindArgs (PySem.W.fnOf "keeps" "Fill.keeps" (defArgs s_Fill_keeps) (defBody s_Fill_keeps) (defScope s_Fill_keeps) .none kV doc pm an cdv ct) ⟨us, []⟩ = pure ((["self", "places", "high"] : List Str).zip us) := fun _ _ _ _ _ _ us hl => match us, hl with | [_, _, _], _ => rfl
abbrev s_Fill_runs : Stmt := (inClass (top 26) 3)
abbrev N_Fill_runs : List Str := ["self", "at", "boxes", "pile"]
theorem sc_Fill_runs : FnScope N_Fill_runs ["self", "at", "boxes", "pile"] (defScope s_Fill_runs) := ⟨rfl, rfl, rfl, by decide +kernel, rfl, by decide +kernel, by decide +kernel⟩
theorem hb_Fill_runs : ∀ (kV doc pm : Value) (an : Option Addr) (cdv ct : Value) (us : List Value), us.length = (["self", "at", "boxes", "pile"] : List Str).length → bindArgs (PySem.W.fnOf "runs" "Fill.runs" (defArgs s_Fill_runs) (defBody s_Fill_runs) (defScope s_Fill_runs) .none kV doc pm an cdv ct) ⟨us, []⟩ = pure ((["self", "at", "boxes", "pile"] : List Str).zip us) := fun _ _ _ _ _ _ us hl => match us, hl with | [_, _, _, _], _ => rfl
abbrev N_Set_value : List Str := ["self", "boxes"]
theorem sc_Set_value : FnScope N_Set_value ["self", "boxes"] (defScope s_Set_value) := ⟨rfl, rfl, rfl, by decide +kernel, rfl, by decide +kernel, by decide +kernel⟩
theorem hb_Set_value : ∀ (kV doc pm : Value) (an : Option Addr) (cdv ct : Value) (us : List Value), us.length = (["self", "boxes"] : List Str).length → bindArgs (PySem.W.fnOf "value" "Set.value" (defArgs s_Set_value) (defBody s_Set_value) (defScope s_Set_value) .none kV doc pm an cdv ct) ⟨us, []⟩ = pure ((["self", "boxes"] : List Str).zip us) := fun _ _ _ _ _ _ us hl => match us, hl with | [_, _], _ => rfl
abbrev N_Copy_init : List Str := ["self", "box", "one"]
theorem sc_Copy_init : FnScope N_Copy_init ["self", "box", "one"] (defScope s_Copy_init) := ⟨rfl, rfl, rfl, by decide +kernel, rfl, by decide +kernel, by decide +kernel⟩
theorem hb_Copy_init : ∀ (kV doc pm : Value) (an : Option Addr) (cdv ct : Value) (us : List Value), us.length = (["self", "box", "one"] : List Str).length → bindArgs (PySem.W.fnOf "__init__" "Copy.__init__" (defArgs s_Copy_init) (defBody s_Copy_init) (defScope s_Copy_init) .none kV doc pm an cdv ct) ⟨us, []⟩ = pure ((["self", "box", "one"] : List Str).zip us) := fun _ _ _ _ _ _ us hl => match us, hl with | [_, _, _], _ => rfl
abbrev N_Copy_keeps : List Str := ["self", "places", "high"]
theorem sc_Copy_keeps : FnScope N_Copy_keeps ["self", "places", "high"] (defScope s_Copy_keeps) := ⟨rfl, rfl, rfl, by decide +kernel, rfl, by decide +kernel, by decide +kernel⟩
theorem hb_Copy_keeps : ∀ (kV doc pm : Value) (an : Option Addr) (cdv ct : Value) (us : List Value), us.length = (["self", "places", "high"] : List Str).length → bindArgs (PySem.W.fnOf "keeps" "Copy.keeps" (defArgs s_Copy_keeps) (defBody s_Copy_keeps) (defScope s_Copy_keeps) .none kV doc pm an cdv ct) ⟨us, []⟩ = pure ((["self", "places", "high"] : List Str).zip us) := fun _ _ _ _ _ _ us hl => match us, hl with | [_, _, _], _ => rfl
abbrev N_Copy_value : List Str := ["self", "boxes"]
theorem sc_Copy_value : FnScope N_Copy_value ["self", "boxes"] (defScope s_Copy_value) := ⟨rfl, rfl, rfl, by decide +kernel, rfl, by decide +kernel, by decide +kernel⟩
theorem hb_Copy_value : ∀ (kV doc pm : Value) (an : Option Addr) (cdv ct : Value) (us : List Value), us.length = (["self", "boxes"] : List Str).length → bindArgs (PySem.W.fnOf "value" "Copy.value" (defArgs s_Copy_value) (defBody s_Copy_value) (defScope s_Copy_value) .none kV doc pm an cdv ct) ⟨us, []⟩ = pure ((["self", "boxes"] : List Str).zip us) := fun _ _ _ _ _ _ us hl => match us, hl with | [_, _], _ => rfl
abbrev s_Reckon_init : Stmt := (inClass (top 29) 0)
abbrev N_Reckon_init : List Str := ["self", "box", "one", "other"]
theorem sc_Reckon_init : FnScope N_Reckon_init ["self", "box", "one", "other"] (defScope s_Reckon_init) := ⟨rfl, rfl, rfl, by decide +kernel, rfl, by decide +kernel, by decide +kernel⟩
theorem hb_Reckon_init : ∀ (kV doc pm : Value) (an : Option Addr) (cdv ct : Value) (us : List Value), us.length = (["self", "box", "one", "other"] : List Str).length → bindArgs (PySem.W.fnOf "__init__" "Reckon.__init__" (defArgs s_Reckon_init) (defBody s_Reckon_init) (defScope s_Reckon_init) .none kV doc pm an cdv ct) ⟨us, []⟩ = pure ((["self", "box", "one", "other"] : List Str).zip us) := fun _ _ _ _ _ _ us hl => match us, hl with | [_, _, _, _], _ => rfl
abbrev s_Reckon_value : Stmt := (inClass (top 29) 3)
abbrev N_Reckon_value : List Str := ["self", "boxes"]
theorem sc_Reckon_value : FnScope N_Reckon_value ["self", "boxes"] (defScope s_Reckon_value) := ⟨rfl, rfl, rfl, by decide +kernel, rfl, by decide +kernel, by decide +kernel⟩
theorem hb_Reckon_value : ∀ (kV doc pm : Value) (an : Option Addr) (cdv ct : Value) (us : List Value), us.length = (["self", "boxes"] : List Str).length → bindArgs (PySem.W.fnOf "value" "Reckon.value" (defArgs s_Reckon_value) (defBody s_Reckon_value) (defScope s_Reckon_value) .none kV doc pm an cdv ct) ⟨us, []⟩ = pure ((["self", "boxes"] : List Str).zip us) := fun _ _ _ _ _ _ us hl => match us, hl with | [_, _], _ => rfl
abbrev N_Add_comes_to : List Str := ["self", "here", "there"]
theorem sc_Add_comes_to : FnScope N_Add_comes_to ["self", "here", "there"] (defScope s_Add_comes_to) := ⟨rfl, rfl, rfl, by decide +kernel, rfl, by decide +kernel, by decide +kernel⟩
theorem hb_Add_comes_to : ∀ (kV doc pm : Value) (an : Option Addr) (cdv ct : Value) (us : List Value), us.length = (["self", "here", "there"] : List Str).length → bindArgs (PySem.W.fnOf "comes_to" "Add.comes_to" (defArgs s_Add_comes_to) (defBody s_Add_comes_to) (defScope s_Add_comes_to) .none kV doc pm an cdv ct) ⟨us, []⟩ = pure ((["self", "here", "there"] : List Str).zip us) := fun _ _ _ _ _ _ us hl => match us, hl with | [_, _, _], _ => rfl
abbrev N_Grow_init : List Str := ["self", "many"]
theorem sc_Grow_init : FnScope N_Grow_init ["self", "many"] (defScope s_Grow_init) := ⟨rfl, rfl, rfl, by decide +kernel, rfl, by decide +kernel, by decide +kernel⟩
theorem hb_Grow_init : ∀ (kV doc pm : Value) (an : Option Addr) (cdv ct : Value) (us : List Value), us.length = (["self", "many"] : List Str).length → bindArgs (PySem.W.fnOf "__init__" "Grow.__init__" (defArgs s_Grow_init) (defBody s_Grow_init) (defScope s_Grow_init) .none kV doc pm an cdv ct) ⟨us, []⟩ = pure ((["self", "many"] : List Str).zip us) := fun _ _ _ _ _ _ us hl => match us, hl with | [_, _], _ => rfl
abbrev N_Grow_height : List Str := ["self", "high"]
theorem sc_Grow_height : FnScope N_Grow_height ["self", "high"] (defScope s_Grow_height) := ⟨rfl, rfl, rfl, by decide +kernel, rfl, by decide +kernel, by decide +kernel⟩
theorem hb_Grow_height : ∀ (kV doc pm : Value) (an : Option Addr) (cdv ct : Value) (us : List Value), us.length = (["self", "high"] : List Str).length → bindArgs (PySem.W.fnOf "height" "Grow.height" (defArgs s_Grow_height) (defBody s_Grow_height) (defScope s_Grow_height) .none kV doc pm an cdv ct) ⟨us, []⟩ = pure ((["self", "high"] : List Str).zip us) := fun _ _ _ _ _ _ us hl => match us, hl with | [_, _], _ => rfl
abbrev s_Row_keeps : Stmt := (inClass (top 25) 6)
abbrev N_Row_keeps : List Str := ["self", "places", "high"]
theorem sc_Row_keeps : FnScope N_Row_keeps ["self", "places", "high"] (defScope s_Row_keeps) := ⟨rfl, rfl, rfl, by decide +kernel, rfl, by decide +kernel, by decide +kernel⟩
theorem hb_Row_keeps : ∀ (kV doc pm : Value) (an : Option Addr) (cdv ct : Value) (us : List Value), us.length = (["self", "places", "high"] : List Str).length → bindArgs (PySem.W.fnOf "keeps" "Row.keeps" (defArgs s_Row_keeps) (defBody s_Row_keeps) (defScope s_Row_keeps) .none kV doc pm an cdv ct) ⟨us, []⟩ = pure ((["self", "places", "high"] : List Str).zip us) := fun _ _ _ _ _ _ us hl => match us, hl with | [_, _, _], _ => rfl
abbrev N_Grow_runs : List Str := ["self", "at", "boxes", "pile"]
theorem sc_Grow_runs : FnScope N_Grow_runs ["self", "at", "boxes", "pile"] (defScope s_Grow_runs) := ⟨rfl, rfl, rfl, by decide +kernel, rfl, by decide +kernel, by decide +kernel⟩
theorem hb_Grow_runs : ∀ (kV doc pm : Value) (an : Option Addr) (cdv ct : Value) (us : List Value), us.length = (["self", "at", "boxes", "pile"] : List Str).length → bindArgs (PySem.W.fnOf "runs" "Grow.runs" (defArgs s_Grow_runs) (defBody s_Grow_runs) (defScope s_Grow_runs) .none kV doc pm an cdv ct) ⟨us, []⟩ = pure ((["self", "at", "boxes", "pile"] : List Str).zip us) := fun _ _ _ _ _ _ us hl => match us, hl with | [_, _, _, _], _ => rfl
abbrev N_Shrink_init : List Str := ["self", "many"]
theorem sc_Shrink_init : FnScope N_Shrink_init ["self", "many"] (defScope s_Shrink_init) := ⟨rfl, rfl, rfl, by decide +kernel, rfl, by decide +kernel, by decide +kernel⟩
theorem hb_Shrink_init : ∀ (kV doc pm : Value) (an : Option Addr) (cdv ct : Value) (us : List Value), us.length = (["self", "many"] : List Str).length → bindArgs (PySem.W.fnOf "__init__" "Shrink.__init__" (defArgs s_Shrink_init) (defBody s_Shrink_init) (defScope s_Shrink_init) .none kV doc pm an cdv ct) ⟨us, []⟩ = pure ((["self", "many"] : List Str).zip us) := fun _ _ _ _ _ _ us hl => match us, hl with | [_, _], _ => rfl
abbrev N_Shrink_height : List Str := ["self", "high"]
theorem sc_Shrink_height : FnScope N_Shrink_height ["self", "high"] (defScope s_Shrink_height) := ⟨rfl, rfl, rfl, by decide +kernel, rfl, by decide +kernel, by decide +kernel⟩
theorem hb_Shrink_height : ∀ (kV doc pm : Value) (an : Option Addr) (cdv ct : Value) (us : List Value), us.length = (["self", "high"] : List Str).length → bindArgs (PySem.W.fnOf "height" "Shrink.height" (defArgs s_Shrink_height) (defBody s_Shrink_height) (defScope s_Shrink_height) .none kV doc pm an cdv ct) ⟨us, []⟩ = pure ((["self", "high"] : List Str).zip us) := fun _ _ _ _ _ _ us hl => match us, hl with | [_, _], _ => rfl
abbrev N_Shrink_keeps : List Str := ["self", "places", "high"]
theorem sc_Shrink_keeps : FnScope N_Shrink_keeps ["self", "places", "high"] (defScope s_Shrink_keeps) := ⟨rfl, rfl, rfl, by decide +kernel, rfl, by decide +kernel, by decide +kernel⟩
theorem hb_Shrink_keeps : ∀ (kV doc pm : Value) (an : Option Addr) (cdv ct : Value) (us : List Value), us.length = (["self", "places", "high"] : List Str).length → bindArgs (PySem.W.fnOf "keeps" "Shrink.keeps" (defArgs s_Shrink_keeps) (defBody s_Shrink_keeps) (defScope s_Shrink_keeps) .none kV doc pm an cdv ct) ⟨us, []⟩ = pure ((["self", "places", "high"] : List Str).zip us) := fun _ _ _ _ _ _ us hl => match us, hl with | [_, _, _], _ => rfl
abbrev N_Shrink_runs : List Str := ["self", "at", "boxes", "pile"]
theorem sc_Shrink_runs : FnScope N_Shrink_runs ["self", "at", "boxes", "pile"] (defScope s_Shrink_runs) := ⟨rfl, rfl, rfl, by decide +kernel, rfl, by decide +kernel, by decide +kernel⟩
theorem hb_Shrink_runs : ∀ (kV doc pm : Value) (an : Option Addr) (cdv ct : Value) (us : List Value), us.length = (["self", "at", "boxes", "pile"] : List Str).length → bindArgs (PySem.W.fnOf "runs" "Shrink.runs" (defArgs s_Shrink_runs) (defBody s_Shrink_runs) (defScope s_Shrink_runs) .none kV doc pm an cdv ct) ⟨us, []⟩ = pure ((["self", "at", "boxes", "pile"] : List Str).zip us) := fun _ _ _ _ _ _ us hl => match us, hl with | [_, _, _, _], _ => rfl
abbrev s_Touch_init : Stmt := (inClass (top 33) 0)
abbrev N_Touch_init : List Str := ["self", "box", "cell"]
theorem sc_Touch_init : FnScope N_Touch_init ["self", "box", "cell"] (defScope s_Touch_init) := ⟨rfl, rfl, rfl, by decide +kernel, rfl, by decide +kernel, by decide +kernel⟩
theorem hb_Touch_init : ∀ (kV doc pm : Value) (an : Option Addr) (cdv ct : Value) (us : List Value), us.length = (["self", "box", "cell"] : List Str).length → bindArgs (PySem.W.fnOf "__init__" "Touch.__init__" (defArgs s_Touch_init) (defBody s_Touch_init) (defScope s_Touch_init) .none kV doc pm an cdv ct) ⟨us, []⟩ = pure ((["self", "box", "cell"] : List Str).zip us) := fun _ _ _ _ _ _ us hl => match us, hl with | [_, _, _], _ => rfl
abbrev s_Touch_height : Stmt := (inClass (top 33) 2)
abbrev N_Touch_height : List Str := ["self", "high"]
theorem sc_Touch_height : FnScope N_Touch_height ["self", "high"] (defScope s_Touch_height) := ⟨rfl, rfl, rfl, by decide +kernel, rfl, by decide +kernel, by decide +kernel⟩
theorem hb_Touch_height : ∀ (kV doc pm : Value) (an : Option Addr) (cdv ct : Value) (us : List Value), us.length = (["self", "high"] : List Str).length → bindArgs (PySem.W.fnOf "height" "Touch.height" (defArgs s_Touch_height) (defBody s_Touch_height) (defScope s_Touch_height) .none kV doc pm an cdv ct) ⟨us, []⟩ = pure ((["self", "high"] : List Str).zip us) := fun _ _ _ _ _ _ us hl => match us, hl with | [_, _], _ => rfl
abbrev N_Put_keeps : List Str := ["self", "places", "high"]
theorem sc_Put_keeps : FnScope N_Put_keeps ["self", "places", "high"] (defScope s_Put_keeps) := ⟨rfl, rfl, rfl, by decide +kernel, rfl, by decide +kernel, by decide +kernel⟩
theorem hb_Put_keeps : ∀ (kV doc pm : Value) (an : Option Addr) (cdv ct : Value) (us : List Value), us.length = (["self", "places", "high"] : List Str).length → bindArgs (PySem.W.fnOf "keeps" "Put.keeps" (defArgs s_Put_keeps) (defBody s_Put_keeps) (defScope s_Put_keeps) .none kV doc pm an cdv ct) ⟨us, []⟩ = pure ((["self", "places", "high"] : List Str).zip us) := fun _ _ _ _ _ _ us hl => match us, hl with | [_, _, _], _ => rfl
abbrev N_Put_runs : List Str := ["self", "at", "boxes", "pile", "cells"]
theorem sc_Put_runs : FnScope N_Put_runs ["self", "at", "boxes", "pile"] (defScope s_Put_runs) := ⟨rfl, rfl, rfl, by decide +kernel, rfl, by decide +kernel, by decide +kernel⟩
theorem hb_Put_runs : ∀ (kV doc pm : Value) (an : Option Addr) (cdv ct : Value) (us : List Value), us.length = (["self", "at", "boxes", "pile"] : List Str).length → bindArgs (PySem.W.fnOf "runs" "Put.runs" (defArgs s_Put_runs) (defBody s_Put_runs) (defScope s_Put_runs) .none kV doc pm an cdv ct) ⟨us, []⟩ = pure ((["self", "at", "boxes", "pile"] : List Str).zip us) := fun _ _ _ _ _ _ us hl => match us, hl with | [_, _, _, _], _ => rfl
abbrev N_Get_keeps : List Str := ["self", "places", "high"]
theorem sc_Get_keeps : FnScope N_Get_keeps ["self", "places", "high"] (defScope s_Get_keeps) := ⟨rfl, rfl, rfl, by decide +kernel, rfl, by decide +kernel, by decide +kernel⟩
theorem hb_Get_keeps : ∀ (kV doc pm : Value) (an : Option Addr) (cdv ct : Value) (us : List Value), us.length = (["self", "places", "high"] : List Str).length → bindArgs (PySem.W.fnOf "keeps" "Get.keeps" (defArgs s_Get_keeps) (defBody s_Get_keeps) (defScope s_Get_keeps) .none kV doc pm an cdv ct) ⟨us, []⟩ = pure ((["self", "places", "high"] : List Str).zip us) := fun _ _ _ _ _ _ us hl => match us, hl with | [_, _, _], _ => rfl
abbrev N_Get_runs : List Str := ["self", "at", "boxes", "pile"]
theorem sc_Get_runs : FnScope N_Get_runs ["self", "at", "boxes", "pile"] (defScope s_Get_runs) := ⟨rfl, rfl, rfl, by decide +kernel, rfl, by decide +kernel, by decide +kernel⟩
theorem hb_Get_runs : ∀ (kV doc pm : Value) (an : Option Addr) (cdv ct : Value) (us : List Value), us.length = (["self", "at", "boxes", "pile"] : List Str).length → bindArgs (PySem.W.fnOf "runs" "Get.runs" (defArgs s_Get_runs) (defBody s_Get_runs) (defScope s_Get_runs) .none kV doc pm an cdv ct) ⟨us, []⟩ = pure ((["self", "at", "boxes", "pile"] : List Str).zip us) := fun _ _ _ _ _ _ us hl => match us, hl with | [_, _, _, _], _ => rfl
abbrev N_Jump_init : List Str := ["self", "target"]
theorem sc_Jump_init : FnScope N_Jump_init ["self", "target"] (defScope s_Jump_init) := ⟨rfl, rfl, rfl, by decide +kernel, rfl, by decide +kernel, by decide +kernel⟩
theorem hb_Jump_init : ∀ (kV doc pm : Value) (an : Option Addr) (cdv ct : Value) (us : List Value), us.length = (["self", "target"] : List Str).length → bindArgs (PySem.W.fnOf "__init__" "Jump.__init__" (defArgs s_Jump_init) (defBody s_Jump_init) (defScope s_Jump_init) .none kV doc pm an cdv ct) ⟨us, []⟩ = pure ((["self", "target"] : List Str).zip us) := fun _ _ _ _ _ _ us hl => match us, hl with | [_, _], _ => rfl
abbrev N_Jump_goes : List Str := ["self", "at"]
theorem sc_Jump_goes : FnScope N_Jump_goes ["self", "at"] (defScope s_Jump_goes) := ⟨rfl, rfl, rfl, by decide +kernel, rfl, by decide +kernel, by decide +kernel⟩
theorem hb_Jump_goes : ∀ (kV doc pm : Value) (an : Option Addr) (cdv ct : Value) (us : List Value), us.length = (["self", "at"] : List Str).length → bindArgs (PySem.W.fnOf "goes" "Jump.goes" (defArgs s_Jump_goes) (defBody s_Jump_goes) (defScope s_Jump_goes) .none kV doc pm an cdv ct) ⟨us, []⟩ = pure ((["self", "at"] : List Str).zip us) := fun _ _ _ _ _ _ us hl => match us, hl with | [_, _], _ => rfl
abbrev N_Jump_runs : List Str := ["self", "at", "boxes", "pile"]
theorem sc_Jump_runs : FnScope N_Jump_runs ["self", "at", "boxes", "pile"] (defScope s_Jump_runs) := ⟨rfl, rfl, rfl, by decide +kernel, rfl, by decide +kernel, by decide +kernel⟩
theorem hb_Jump_runs : ∀ (kV doc pm : Value) (an : Option Addr) (cdv ct : Value) (us : List Value), us.length = (["self", "at", "boxes", "pile"] : List Str).length → bindArgs (PySem.W.fnOf "runs" "Jump.runs" (defArgs s_Jump_runs) (defBody s_Jump_runs) (defScope s_Jump_runs) .none kV doc pm an cdv ct) ⟨us, []⟩ = pure ((["self", "at", "boxes", "pile"] : List Str).zip us) := fun _ _ _ _ _ _ us hl => match us, hl with | [_, _, _, _], _ => rfl
abbrev N_Branch_init : List Str := ["self", "box", "target"]
theorem sc_Branch_init : FnScope N_Branch_init ["self", "box", "target"] (defScope s_Branch_init) := ⟨rfl, rfl, rfl, by decide +kernel, rfl, by decide +kernel, by decide +kernel⟩
theorem hb_Branch_init : ∀ (kV doc pm : Value) (an : Option Addr) (cdv ct : Value) (us : List Value), us.length = (["self", "box", "target"] : List Str).length → bindArgs (PySem.W.fnOf "__init__" "Branch.__init__" (defArgs s_Branch_init) (defBody s_Branch_init) (defScope s_Branch_init) .none kV doc pm an cdv ct) ⟨us, []⟩ = pure ((["self", "box", "target"] : List Str).zip us) := fun _ _ _ _ _ _ us hl => match us, hl with | [_, _, _], _ => rfl
abbrev N_Branch_goes : List Str := ["self", "at"]
theorem sc_Branch_goes : FnScope N_Branch_goes ["self", "at"] (defScope s_Branch_goes) := ⟨rfl, rfl, rfl, by decide +kernel, rfl, by decide +kernel, by decide +kernel⟩
theorem hb_Branch_goes : ∀ (kV doc pm : Value) (an : Option Addr) (cdv ct : Value) (us : List Value), us.length = (["self", "at"] : List Str).length → bindArgs (PySem.W.fnOf "goes" "Branch.goes" (defArgs s_Branch_goes) (defBody s_Branch_goes) (defScope s_Branch_goes) .none kV doc pm an cdv ct) ⟨us, []⟩ = pure ((["self", "at"] : List Str).zip us) := fun _ _ _ _ _ _ us hl => match us, hl with | [_, _], _ => rfl
abbrev N_Branch_runs : List Str := ["self", "at", "boxes", "pile"]
theorem sc_Branch_runs : FnScope N_Branch_runs ["self", "at", "boxes", "pile"] (defScope s_Branch_runs) := ⟨rfl, rfl, rfl, by decide +kernel, rfl, by decide +kernel, by decide +kernel⟩
theorem hb_Branch_runs : ∀ (kV doc pm : Value) (an : Option Addr) (cdv ct : Value) (us : List Value), us.length = (["self", "at", "boxes", "pile"] : List Str).length → bindArgs (PySem.W.fnOf "runs" "Branch.runs" (defArgs s_Branch_runs) (defBody s_Branch_runs) (defScope s_Branch_runs) .none kV doc pm an cdv ct) ⟨us, []⟩ = pure ((["self", "at", "boxes", "pile"] : List Str).zip us) := fun _ _ _ _ _ _ us hl => match us, hl with | [_, _, _, _], _ => rfl
abbrev N_Call_init : List Str := ["self", "target"]
theorem sc_Call_init : FnScope N_Call_init ["self", "target"] (defScope s_Call_init) := ⟨rfl, rfl, rfl, by decide +kernel, rfl, by decide +kernel, by decide +kernel⟩
theorem hb_Call_init : ∀ (kV doc pm : Value) (an : Option Addr) (cdv ct : Value) (us : List Value), us.length = (["self", "target"] : List Str).length → bindArgs (PySem.W.fnOf "__init__" "Call.__init__" (defArgs s_Call_init) (defBody s_Call_init) (defScope s_Call_init) .none kV doc pm an cdv ct) ⟨us, []⟩ = pure ((["self", "target"] : List Str).zip us) := fun _ _ _ _ _ _ us hl => match us, hl with | [_, _], _ => rfl
abbrev N_Call_keeps : List Str := ["self", "places", "high"]
theorem sc_Call_keeps : FnScope N_Call_keeps ["self", "places", "high"] (defScope s_Call_keeps) := ⟨rfl, rfl, rfl, by decide +kernel, rfl, by decide +kernel, by decide +kernel⟩
theorem hb_Call_keeps : ∀ (kV doc pm : Value) (an : Option Addr) (cdv ct : Value) (us : List Value), us.length = (["self", "places", "high"] : List Str).length → bindArgs (PySem.W.fnOf "keeps" "Call.keeps" (defArgs s_Call_keeps) (defBody s_Call_keeps) (defScope s_Call_keeps) .none kV doc pm an cdv ct) ⟨us, []⟩ = pure ((["self", "places", "high"] : List Str).zip us) := fun _ _ _ _ _ _ us hl => match us, hl with | [_, _, _], _ => rfl
abbrev N_Call_runs : List Str := ["self", "at", "boxes", "pile"]
theorem sc_Call_runs : FnScope N_Call_runs ["self", "at", "boxes", "pile"] (defScope s_Call_runs) := ⟨rfl, rfl, rfl, by decide +kernel, rfl, by decide +kernel, by decide +kernel⟩
theorem hb_Call_runs : ∀ (kV doc pm : Value) (an : Option Addr) (cdv ct : Value) (us : List Value), us.length = (["self", "at", "boxes", "pile"] : List Str).length → bindArgs (PySem.W.fnOf "runs" "Call.runs" (defArgs s_Call_runs) (defBody s_Call_runs) (defScope s_Call_runs) .none kV doc pm an cdv ct) ⟨us, []⟩ = pure ((["self", "at", "boxes", "pile"] : List Str).zip us) := fun _ _ _ _ _ _ us hl => match us, hl with | [_, _, _, _], _ => rfl
abbrev N_Back_init : List Str := ["self", "box"]
theorem sc_Back_init : FnScope N_Back_init ["self", "box"] (defScope s_Back_init) := ⟨rfl, rfl, rfl, by decide +kernel, rfl, by decide +kernel, by decide +kernel⟩
theorem hb_Back_init : ∀ (kV doc pm : Value) (an : Option Addr) (cdv ct : Value) (us : List Value), us.length = (["self", "box"] : List Str).length → bindArgs (PySem.W.fnOf "__init__" "Back.__init__" (defArgs s_Back_init) (defBody s_Back_init) (defScope s_Back_init) .none kV doc pm an cdv ct) ⟨us, []⟩ = pure ((["self", "box"] : List Str).zip us) := fun _ _ _ _ _ _ us hl => match us, hl with | [_, _], _ => rfl
abbrev N_Back_goes : List Str := ["self", "at"]
theorem sc_Back_goes : FnScope N_Back_goes ["self", "at"] (defScope s_Back_goes) := ⟨rfl, rfl, rfl, by decide +kernel, rfl, by decide +kernel, by decide +kernel⟩
theorem hb_Back_goes : ∀ (kV doc pm : Value) (an : Option Addr) (cdv ct : Value) (us : List Value), us.length = (["self", "at"] : List Str).length → bindArgs (PySem.W.fnOf "goes" "Back.goes" (defArgs s_Back_goes) (defBody s_Back_goes) (defScope s_Back_goes) .none kV doc pm an cdv ct) ⟨us, []⟩ = pure ((["self", "at"] : List Str).zip us) := fun _ _ _ _ _ _ us hl => match us, hl with | [_, _], _ => rfl
abbrev N_Back_runs : List Str := ["self", "at", "boxes", "pile"]
theorem sc_Back_runs : FnScope N_Back_runs ["self", "at", "boxes", "pile"] (defScope s_Back_runs) := ⟨rfl, rfl, rfl, by decide +kernel, rfl, by decide +kernel, by decide +kernel⟩
theorem hb_Back_runs : ∀ (kV doc pm : Value) (an : Option Addr) (cdv ct : Value) (us : List Value), us.length = (["self", "at", "boxes", "pile"] : List Str).length → bindArgs (PySem.W.fnOf "runs" "Back.runs" (defArgs s_Back_runs) (defBody s_Back_runs) (defScope s_Back_runs) .none kV doc pm an cdv ct) ⟨us, []⟩ = pure ((["self", "at", "boxes", "pile"] : List Str).zip us) := fun _ _ _ _ _ _ us hl => match us, hl with | [_, _, _, _], _ => rfl
abbrev N_Drop_init : List Str := ["self", "box"]
theorem sc_Drop_init : FnScope N_Drop_init ["self", "box"] (defScope s_Drop_init) := ⟨rfl, rfl, rfl, by decide +kernel, rfl, by decide +kernel, by decide +kernel⟩
theorem hb_Drop_init : ∀ (kV doc pm : Value) (an : Option Addr) (cdv ct : Value) (us : List Value), us.length = (["self", "box"] : List Str).length → bindArgs (PySem.W.fnOf "__init__" "Drop.__init__" (defArgs s_Drop_init) (defBody s_Drop_init) (defScope s_Drop_init) .none kV doc pm an cdv ct) ⟨us, []⟩ = pure ((["self", "box"] : List Str).zip us) := fun _ _ _ _ _ _ us hl => match us, hl with | [_, _], _ => rfl
abbrev N_Drop_goes : List Str := ["self", "at"]
theorem sc_Drop_goes : FnScope N_Drop_goes ["self", "at"] (defScope s_Drop_goes) := ⟨rfl, rfl, rfl, by decide +kernel, rfl, by decide +kernel, by decide +kernel⟩
theorem hb_Drop_goes : ∀ (kV doc pm : Value) (an : Option Addr) (cdv ct : Value) (us : List Value), us.length = (["self", "at"] : List Str).length → bindArgs (PySem.W.fnOf "goes" "Drop.goes" (defArgs s_Drop_goes) (defBody s_Drop_goes) (defScope s_Drop_goes) .none kV doc pm an cdv ct) ⟨us, []⟩ = pure ((["self", "at"] : List Str).zip us) := fun _ _ _ _ _ _ us hl => match us, hl with | [_, _], _ => rfl
abbrev N_Fill_init : List Str := ["self", "box"]
theorem sc_Fill_init : FnScope N_Fill_init ["self", "box"] (defScope s_Fill_init) := ⟨rfl, rfl, rfl, by decide +kernel, rfl, by decide +kernel, by decide +kernel⟩
theorem hb_Fill_init : ∀ (kV doc pm : Value) (an : Option Addr) (cdv ct : Value) (us : List Value), us.length = (["self", "box"] : List Str).length → bindArgs (PySem.W.fnOf "__init__" "Fill.__init__" (defArgs s_Fill_init) (defBody s_Fill_init) (defScope s_Fill_init) .none kV doc pm an cdv ct) ⟨us, []⟩ = pure ((["self", "box"] : List Str).zip us) := fun _ _ _ _ _ _ us hl => match us, hl with | [_, _], _ => rfl
abbrev N_Table_init : List Str := ["self", "entries", "landings"]
theorem sc_Table_init : FnScope N_Table_init ["self", "entries", "landings"] (defScope s_Table_init) := ⟨rfl, rfl, rfl, by decide +kernel, rfl, by decide +kernel, by decide +kernel⟩
abbrev N_Machine_init : List Str := ["self", "code", "table", "boxes", "start"]
theorem sc_Machine_init : FnScope N_Machine_init ["self", "code", "table", "boxes", "start"] (defScope s_Machine_init) := ⟨rfl, rfl, rfl, by decide +kernel, rfl, by decide +kernel, by decide +kernel⟩
abbrev N_Machine_at : List Str := ["self"]
theorem sc_Machine_at : FnScope N_Machine_at ["self"] (defScope s_Machine_at) := ⟨rfl, rfl, rfl, by decide +kernel, rfl, by decide +kernel, by decide +kernel⟩
theorem hb_Machine_at : ∀ (kV doc pm : Value) (an : Option Addr) (cdv ct : Value) (us : List Value), us.length = (["self"] : List Str).length → bindArgs (PySem.W.fnOf "at" "Machine.at" (defArgs s_Machine_at) (defBody s_Machine_at) (defScope s_Machine_at) .none kV doc pm an cdv ct) ⟨us, []⟩ = pure ((["self"] : List Str).zip us) := fun _ _ _ _ _ _ us hl => match us, hl with | [_], _ => rfl
abbrev N_Machine_boxes : List Str := ["self"]
theorem sc_Machine_boxes : FnScope N_Machine_boxes ["self"] (defScope s_Machine_boxes) := ⟨rfl, rfl, rfl, by decide +kernel, rfl, by decide +kernel, by decide +kernel⟩
theorem hb_Machine_boxes : ∀ (kV doc pm : Value) (an : Option Addr) (cdv ct : Value) (us : List Value), us.length = (["self"] : List Str).length → bindArgs (PySem.W.fnOf "boxes" "Machine.boxes" (defArgs s_Machine_boxes) (defBody s_Machine_boxes) (defScope s_Machine_boxes) .none kV doc pm an cdv ct) ⟨us, []⟩ = pure ((["self"] : List Str).zip us) := fun _ _ _ _ _ _ us hl => match us, hl with | [_], _ => rfl
abbrev N_Machine_pile : List Str := ["self"]
theorem sc_Machine_pile : FnScope N_Machine_pile ["self"] (defScope s_Machine_pile) := ⟨rfl, rfl, rfl, by decide +kernel, rfl, by decide +kernel, by decide +kernel⟩
theorem hb_Machine_pile : ∀ (kV doc pm : Value) (an : Option Addr) (cdv ct : Value) (us : List Value), us.length = (["self"] : List Str).length → bindArgs (PySem.W.fnOf "pile" "Machine.pile" (defArgs s_Machine_pile) (defBody s_Machine_pile) (defScope s_Machine_pile) .none kV doc pm an cdv ct) ⟨us, []⟩ = pure ((["self"] : List Str).zip us) := fun _ _ _ _ _ _ us hl => match us, hl with | [_], _ => rfl
abbrev N_Machine_word : List Str := ["self"]
theorem sc_Machine_word : FnScope N_Machine_word ["self"] (defScope s_Machine_word) := ⟨rfl, rfl, rfl, by decide +kernel, rfl, by decide +kernel, by decide +kernel⟩
theorem hb_Machine_word : ∀ (kV doc pm : Value) (an : Option Addr) (cdv ct : Value) (us : List Value), us.length = (["self"] : List Str).length → bindArgs (PySem.W.fnOf "word" "Machine.word" (defArgs s_Machine_word) (defBody s_Machine_word) (defScope s_Machine_word) .none kV doc pm an cdv ct) ⟨us, []⟩ = pure ((["self"] : List Str).zip us) := fun _ _ _ _ _ _ us hl => match us, hl with | [_], _ => rfl
abbrev N_Machine_fault : List Str := ["self"]
theorem sc_Machine_fault : FnScope N_Machine_fault ["self"] (defScope s_Machine_fault) := ⟨rfl, rfl, rfl, by decide +kernel, rfl, by decide +kernel, by decide +kernel⟩
theorem hb_Machine_fault : ∀ (kV doc pm : Value) (an : Option Addr) (cdv ct : Value) (us : List Value), us.length = (["self"] : List Str).length → bindArgs (PySem.W.fnOf "fault" "Machine.fault" (defArgs s_Machine_fault) (defBody s_Machine_fault) (defScope s_Machine_fault) .none kV doc pm an cdv ct) ⟨us, []⟩ = pure ((["self"] : List Str).zip us) := fun _ _ _ _ _ _ us hl => match us, hl with | [_], _ => rfl
abbrev N_Machine_step : List Str := ["self", "row", "found", "kept"]
theorem sc_Machine_step : FnScope N_Machine_step ["self"] (defScope s_Machine_step) := ⟨rfl, rfl, rfl, by decide +kernel, rfl, by decide +kernel, by decide +kernel⟩
theorem hb_Machine_step : ∀ (kV doc pm : Value) (an : Option Addr) (cdv ct : Value) (us : List Value), us.length = (["self"] : List Str).length → bindArgs (PySem.W.fnOf "step" "Machine.step" (defArgs s_Machine_step) (defBody s_Machine_step) (defScope s_Machine_step) .none kV doc pm an cdv ct) ⟨us, []⟩ = pure ((["self"] : List Str).zip us) := fun _ _ _ _ _ _ us hl => match us, hl with | [_], _ => rfl
abbrev N_Machine_go_on : List Str := ["self", "place", "held", "cells"]
theorem sc_Machine_go_on : FnScope N_Machine_go_on ["self", "place", "held", "cells"] (defScope s_Machine_go_on) := ⟨rfl, rfl, rfl, by decide +kernel, rfl, by decide +kernel, by decide +kernel⟩
theorem hb_Machine_go_on : ∀ (kV doc pm : Value) (an : Option Addr) (cdv ct : Value) (us : List Value), us.length = (["self", "place", "held", "cells"] : List Str).length → bindArgs (PySem.W.fnOf "go_on" "Machine.go_on" (defArgs s_Machine_go_on) (defBody s_Machine_go_on) (defScope s_Machine_go_on) .none kV doc pm an cdv ct) ⟨us, []⟩ = pure ((["self", "place", "held", "cells"] : List Str).zip us) := fun _ _ _ _ _ _ us hl => match us, hl with | [_, _, _, _], _ => rfl
abbrev N_Machine_drop : List Str := ["self", "row", "some", "many", "place", "kept", "length", "landing"]
theorem sc_Machine_drop : FnScope N_Machine_drop ["self", "row"] (defScope s_Machine_drop) := ⟨rfl, rfl, rfl, by decide +kernel, rfl, by decide +kernel, by decide +kernel⟩
theorem hb_Machine_drop : ∀ (kV doc pm : Value) (an : Option Addr) (cdv ct : Value) (us : List Value), us.length = (["self", "row"] : List Str).length → bindArgs (PySem.W.fnOf "drop" "Machine.drop" (defArgs s_Machine_drop) (defBody s_Machine_drop) (defScope s_Machine_drop) .none kV doc pm an cdv ct) ⟨us, []⟩ = pure ((["self", "row"] : List Str).zip us) := fun _ _ _ _ _ _ us hl => match us, hl with | [_, _], _ => rfl
abbrev N_Machine_land : List Str := ["self", "row", "landing", "kept", "length", "many", "held"]
theorem sc_Machine_land : FnScope N_Machine_land ["self", "row", "landing", "kept", "length", "many"] (defScope s_Machine_land) := ⟨rfl, rfl, rfl, by decide +kernel, rfl, by decide +kernel, by decide +kernel⟩
theorem hb_Machine_land : ∀ (kV doc pm : Value) (an : Option Addr) (cdv ct : Value) (us : List Value), us.length = (["self", "row", "landing", "kept", "length", "many"] : List Str).length → bindArgs (PySem.W.fnOf "land" "Machine.land" (defArgs s_Machine_land) (defBody s_Machine_land) (defScope s_Machine_land) .none kV doc pm an cdv ct) ⟨us, []⟩ = pure ((["self", "row", "landing", "kept", "length", "many"] : List Str).zip us) := fun _ _ _ _ _ _ us hl => match us, hl with | [_, _, _, _, _, _], _ => rfl
end Fb

set_option Elab.async false
set_option linter.all false
set_option maxRecDepth 100000
set_option maxHeartbeats 4000000
namespace Fb
open PySem PySem.Spec PyProof.Rows L2
open He (ga ma)
/-! ### short words -/
section
variable {X : Cx}
/-- a global that is a whole number -/
theorem pe_gi {x : Str} {i : Int} {pos : Pos} (hg : Gl X x) (h : ∃ t, X.mg x = some (.int i t)) (hd : (x == ("__debug__" : Str)) = false := by decide) : PE X (.Name x pos) (tC (.int i)) := by
  obtain ⟨t, e⟩ := h
  exact pe_glob hg e ⟨t, rfl⟩ hd
end
theorem passL0 {X : Cx} : Passes CX0 X E0 := pass0
/-! ### heaps that have grown -/
theorem Same.new {H : Hp} {p : Addr} {o : HO} (h : H p = none) : Same H (upd H p o) := fun b u e => by
  rw [upd_ne (ne_of_none e h)]
  exact e
theorem Same.seqT {K : PySem.W.Frag} {H H' : Hp} {a : Addr} {xs : List V} (e : Same H H') (h : SqT K H a xs) : SqT K H' a xs := by
  rcases h with (h | ⟨o, h⟩) | h
  · exact .inl (.inl (e _ _ h))
  · exact .inl (.inr ⟨o, e _ _ h⟩)
  · exact .inr h
/-- an object that H does not know may change -/
theorem Same.mut {H H' : Hp} {p : Addr} {o : HO} (e : Same H H') (h : H p = none) : Same H (upd H' p o) := fun a u ha => by
  rw [upd_ne (ne_of_none ha h)]
  exact e a u ha
theorem qe {Q : VK} {v v' : V} {H : Hp} (k : Q v H) (e : v' = v) : Q v' H := by
  rw [e]
  exact k
theorem ixN_nat {n i : Nat} (h : i < n) : ixN n (i : Int) = some i := by
  unfold ixN
  rw [if_pos (by omega), if_pos (by omega)]
  rfl
/-- a promise that hands back a value and leaves what stood -/
abbrev Gives (H : Hp) (Q : VK) (P : V → Hp → Prop) : Prop := ∀ H' v, Same H H' → P v H' → Q v H'
/-! ### rows on the heap -/
def cN : RowD → Str
  | .set _ _ => "Set"
  | .copy _ _ => "Copy"
  | .add _ _ _ => "Add"
  | .grow _ => "Grow"
  | .shrink _ => "Shrink"
  | .put _ _ => "Put"
  | .get _ _ => "Get"
  | .jump _ => "Jump"
  | .branch _ _ => "Branch"
  | .call _ => "Call"
  | .back _ => "Back"
  | .drop _ => "Drop"
def vi (n : Nat) : V := .int (n : Int)
def fieldsN : RowD → List (Str × V)
  | .set b n => [("box", vi b), ("number", vi n)]
  | .copy b o => [("box", vi b), ("one", vi o)]
  | .add b o t => [("box", vi b), ("one", vi o), ("other", vi t)]
  | .grow m => [("many", vi m)]
  | .shrink m => [("many", vi m)]
  | .put b c => [("box", vi b), ("cell", vi c)]
  | .get b c => [("box", vi b), ("cell", vi c)]
  | .jump t => [("target", vi t)]
  | .branch b t => [("box", vi b), ("target", vi t)]
  | .call t => [("target", vi t)]
  | .back b => [("box", vi b)]
  | .drop b => [("box", vi b)]
def RowAt (K : PySem.W.Frag) (H : Hp) (a : Addr) (r : RowD) : Prop := ∃ dx, H a = some (.ins (ga K (cN r)) dx (fieldsN r))
theorem RowAt.same {K : PySem.W.Frag} {H H' : Hp} {a : Addr} {r : RowD} (e : Same H H') (h : RowAt K H a r) : RowAt K H' a r := let ⟨dx, q⟩ := h; ⟨dx, e _ _ q⟩
/-! ### bits of numbers that are not negative -/
theorem and_nn (a b : Nat) : Builtin.bitAnd (a : Int) (b : Int) = ((a &&& b : Nat) : Int) := by
  rw [bitAnd_pp (by omega) (by omega)]
  rfl
theorem or_nn (a b : Nat) : Builtin.bitOr (a : Int) (b : Int) = ((a ||| b : Nat) : Int) := by
  rw [Bits.bitOr_pp (by omega) (by omega)]
  rfl
theorem xor_nn (a b : Nat) : Builtin.bitXor (a : Int) (b : Int) = ((a ^^^ b : Nat) : Int) := by
  rw [Bits.bitXor_pp (by omega) (by omega)]
  rfl
theorem shr_nn (a b : Nat) : (a : Int) / 2 ^ ((b : Int)).toNat = ((a / 2 ^ b : Nat) : Int) := by
  rw [Int.toNat_natCast, Int.natCast_ediv]
  congr 1
theorem shl_nn (a b : Nat) : (a : Int) * 2 ^ ((b : Int)).toNat = ((a * 2 ^ b : Nat) : Int) := by
  rw [Int.toNat_natCast, Int.natCast_mul]
  congr 1
theorem bit_test (s p : Nat) : decide (((s / 2 ^ p &&& 1 : Nat) : Int) = 1) = s.testBit p := by
  rw [Nat.testBit_eq_decide_div_mod_eq]
  rw [Nat.and_one_is_mod]
  apply decide_eq_decide.mpr
  omega
section
variable {P : Program} {w : World} {K : PySem.W.Frag} {mg : Str → Option Value} {base : Heap}
/-! ### within: nothing is refused -/
def spWithin : Sp := fun vs H Q _ => ∃ n m : Int, vs = [.int n, .int m] ∧ 0 ≤ n ∧ n ≤ m ∧ Q (.int n) H
theorem r_within (T : Tx K mg) : FnR P w K mg base CX0 1 (ga K "within") spWithin := by
  refine fnr0 T.F_within sc_within (fun vs H Q E h => ?_) hb_within (fun cdv A outer s H vs Q E hr h => ?_)
  · obtain ⟨n, m, rfl, _⟩ := h
    rfl
  · obtain ⟨n, m, rfl, h0, h1, k⟩ := h
    refine ⟨_, pss_cons (ps_if (PW.pt (pw_or (pt_cmpR op_lt (pv 0) pe_int (nomark _)) (pw_or1 (pt_cmpR op_gt (pv 0) (pv 1) (nomark _))))) pss_never pss_nil) (pss_one (ps_ret (pv 0))), ?_⟩
    refine ⟨_, rfl, _, _, rfl, rfl, _, rfl, ?_⟩
    rw [decide_eq_false (show ¬ n < 0 by omega)]
    refine iteF ⟨_, rfl, _, rfl, _, _, rfl, rfl, _, rfl, ?_⟩
    rw [decide_eq_false (show ¬ m < n by omega)]
    exact iteF ⟨_, rfl, k⟩
/-! ### with_value, without, followed, bit_of -/
def spWithValue (K : PySem.W.Frag) : Sp := fun vs H Q _ => ∃ (a : Addr) (xs : List V) (i : Nat) (v : V), vs = [.ref a, vi i, v] ∧ SqL K H a xs ∧ i < xs.length ∧ ∀ H' p, Same H H' → H' p = some (.lst (xs.set i v)) → Q (.ref p) H'
theorem r_with_value (T : Tx K mg) : FnR P w K mg base CX0 1 (ga K "with_value") (spWithValue K) := by
  refine fnr0 T.F_with_value sc_with_value (fun vs H Q E h => ?_) hb_with_value (fun cdv A outer s H vs Q E hr h => ?_)
  · obtain ⟨a, xs, i, v, rfl, _⟩ := h
    rfl
  · obtain ⟨a, xs, i, v, rfl, hs, hi, k⟩ := h
    refine ⟨_, pss_cons (ps_set (i := 3) sc_with_value.nd rfl (.inl rfl) (pe_callTy call_list_of rfl T.fr_list (by decide +kernel) (pa_cons (pv 0) pa_nil)))
      (pss_cons (ps_asg (pv 2) (pg_sub (pv 3) (pv 1) set_list)) (pss_one (ps_ret (pv 3)))), ?_⟩
    refine ⟨_, rfl, a, xs, rfl, .inl hs, fun l hl => ?_⟩
    refine ⟨_, rfl, _, rfl, _, rfl, l, xs, i, i, rfl, rfl, upd_same, ixN_nat hi, _, rfl, ?_⟩
    exact k _ l (Same.mut (Same.new hl) hl) upd_same
def spWithout : Sp := fun vs H Q _ => ∃ s p : Nat, vs = [vi s, vi p] ∧ p ≤ 5000 ∧ Q (vi (woN s p)) H
theorem CPow_one {p : Nat} (h : p ≤ 5000) : CPow 1 (p : Int) := ⟨by omega, by omega, by decide⟩
theorem r_without (T : Tx K mg) : FnR P w K mg base CX0 1 (ga K "without") spWithout := by
  refine fnr0 T.F_without sc_without (fun vs H Q E h => ?_) hb_without (fun cdv A outer s H vs Q E hr h => ?_)
  · obtain ⟨s, p, rfl, _⟩ := h
    rfl
  · obtain ⟨s, p, rfl, hp, k⟩ := h
    refine ⟨_, pss_cons (ps_if (pt_cmpR op_eq (pe_op op_and (pe_op op_shr (pv 0) (pv 1)) pe_int) pe_int (nomark _)) (pss_one (ps_ret (pe_op op_xor (pv 0) (pe_op op_shl pe_int (pv 1))))) pss_nil) (pss_one (ps_ret (pv 0))), ?_⟩
    refine ⟨_, rfl, _, rfl, (s : Int), (p : Int), rfl, rfl, by omega, _, _, rfl, rfl, rfl, _, rfl, ?_⟩
    rw [show ((s : Int) / 2 ^ (p : Int).toNat) = ((s / 2 ^ p : Nat) : Int) from shr_nn s p]
    have e1 : Builtin.bitAnd ((s / 2 ^ p : Nat) : Int) 1 = ((s / 2 ^ p &&& 1 : Nat) : Int) := and_nn _ 1
    have e2 : decide (V.int (Builtin.bitAnd ((s / 2 ^ p : Nat) : Int) 1) = V.int 1) = s.testBit p := by
      rw [e1, ← bit_test]
      exact decide_eq_decide.mpr ⟨fun e => V.int.inj e, fun e => congrArg V.int e⟩
    rw [e2]
    by_cases hb : s.testBit p = true
    · rw [hb]
      refine iteT ⟨_, rfl, _, rfl, _, _, rfl, rfl, CPow_one hp, _, _, rfl, rfl, ?_⟩
      have e3 : V.int (Builtin.bitXor (s : Int) (1 * 2 ^ (p : Int).toNat)) = vi (woN s p) := by
        unfold woN
        rw [if_pos hb, Int.one_mul, Int.toNat_natCast, show ((2 : Int) ^ p) = ((2 ^ p : Nat) : Int) from (Int.natCast_pow 2 p).symm, xor_nn]
        rfl
      exact qe (Q := Q) k e3
    · have hb' : s.testBit p = false := by simpa using hb
      rw [hb']
      refine iteF ⟨_, rfl, ?_⟩
      have e3 : woN s p = s := if_neg hb
      rw [e3] at k
      exact k
def spFollowed : Sp := fun vs H Q _ => ∃ s q p : Nat, vs = [vi s, vi q, vi p] ∧ p ≤ 5000 ∧ Q (vi (foN s q p)) H
theorem r_followed (T : Tx K mg) : FnR P w K mg base CX0 2 (ga K "followed") spFollowed := by
  refine fnr0 T.F_followed sc_followed (fun vs H Q E h => ?_) hb_followed (fun cdv A outer s H vs Q E hr h => ?_)
  · obtain ⟨s, q, p, rfl, _⟩ := h
    rfl
  · obtain ⟨s, q, p, rfl, hp, k⟩ := h
    refine ⟨_, pss_cons (ps_if (pt_cmpR op_eq (pe_op op_and (pe_op op_shr (pv 0) (pv 1)) pe_int) pe_int (nomark _)) (pss_one (ps_ret (pe_op op_or (pv 0) (pe_op op_shl pe_int (pv 2))))) pss_nil)
      (pss_one (ps_ret (pe_f (r_without T) hr rfl T.gl_without T.kp_without pass0 (pa_cons (pv 0) (pa_cons (pv 2) pa_nil))))), ?_⟩
    refine ⟨_, rfl, _, rfl, (s : Int), (q : Int), rfl, rfl, by omega, _, _, rfl, rfl, rfl, _, rfl, ?_⟩
    rw [show ((s : Int) / 2 ^ (q : Int).toNat) = ((s / 2 ^ q : Nat) : Int) from shr_nn s q]
    have e1 : Builtin.bitAnd ((s / 2 ^ q : Nat) : Int) 1 = ((s / 2 ^ q &&& 1 : Nat) : Int) := and_nn _ 1
    have e2 : decide (V.int (Builtin.bitAnd ((s / 2 ^ q : Nat) : Int) 1) = V.int 1) = s.testBit q := by
      rw [e1, ← bit_test]
      exact decide_eq_decide.mpr ⟨fun e => V.int.inj e, fun e => congrArg V.int e⟩
    rw [e2]
    by_cases hb : s.testBit q = true
    · rw [hb]
      refine iteT ⟨_, rfl, _, rfl, _, _, rfl, rfl, CPow_one hp, _, _, rfl, rfl, ?_⟩
      have e3 : V.int (Builtin.bitOr (s : Int) (1 * 2 ^ (p : Int).toNat)) = vi (foN s q p) := by
        unfold foN
        rw [if_pos hb, Int.one_mul, Int.toNat_natCast, show ((2 : Int) ^ p) = ((2 ^ p : Nat) : Int) from (Int.natCast_pow 2 p).symm, or_nn]
        rfl
      exact qe (Q := Q) k e3
    · have hb' : s.testBit q = false := by simpa using hb
      rw [hb']
      refine iteF ⟨_, rfl, _, rfl, s, p, rfl, hp, ?_⟩
      have e3 : foN s q p = woN s p := if_neg hb
      rw [e3] at k
      exact k
def spBitOf : Sp := fun vs H Q _ => ∃ c h : Nat, vs = [vi c, vi h] ∧ c < h ∧ Q (vi (8 + h - 1 - c)) H
theorem r_bit_of (T : Tx K mg) : FnR P w K mg base CX0 1 (ga K "bit_of") spBitOf := by
  refine fnr0 T.F_bit_of sc_bit_of (fun vs H Q E h => ?_) hb_bit_of (fun cdv A outer s H vs Q E hr h => ?_)
  · obtain ⟨c, h, rfl, _⟩ := h
    rfl
  · obtain ⟨c, h, rfl, hc, k⟩ := h
    refine ⟨_, pss_one (ps_ret (pe_op op_sub (pe_op op_sub (pe_op op_add (pe_gi rfl T.ig_BOXES_rows) (pv 1)) pe_int) (pv 0))), ?_⟩
    refine ⟨_, rfl, _, _, rfl, rfl, _, _, rfl, rfl, _, rfl, _, _, rfl, rfl, ?_⟩
    have e : V.int (8 + (h : Int) - 1 - (c : Int)) = vi (8 + h - 1 - c) := congrArg V.int (by omega)
    exact qe (Q := Q) k e
end
end Fb

set_option Elab.async false
set_option linter.all false
set_option maxRecDepth 100000
set_option maxHeartbeats 4000000
namespace Fb
open PySem PySem.Spec PyProof.Rows L2
open He (ga ma)
abbrev Fd (K : PySem.W.Frag) (x qual : Str) (st : Stmt) (f : Addr) : Prop := ∃ fd, FunD K x qual (defArgs st) (defBody st) (defScope st) [] [] f fd
section
variable {P : Program} {w : World} {K : PySem.W.Frag} {mg : Str → Option Value} {base : Heap}
/-! ### goes -/
def spGoes (K : PySem.W.Frag) (r : RowD) : Sp := fun vs H Q _ => ∃ (a : Addr) (i : Nat), vs = [.ref a, vi i] ∧ RowAt K H a r ∧ ∀ H' p, Same H H' → H p = none → H' p = some (.lst ((goesN r i).map vi)) → Q (.ref p) H'
theorem g_Row_goes {f : Addr} (F : Fd K "goes" "Row.goes" s_Row_goes f) : FnR P w K mg base CX0 1 f (fun vs H Q _ => ∃ (v : V) (i : Nat), vs = [v, vi i] ∧ ∀ H' p, Same H H' → H p = none → H' p = some (.lst [vi (i + 1)]) → Q (.ref p) H') := by
  refine fnr0 F sc_Row_goes (fun vs H Q E h => ?_) hb_Row_goes (fun cdv A outer s H vs Q E hr h => ?_)
  · obtain ⟨v, i, rfl, _⟩ := h
    rfl
  · obtain ⟨v, i, rfl, k⟩ := h
    refine ⟨_, pss_one (ps_ret (pe_lst (pa_cons (pe_op op_add (pv 1) pe_int) pa_nil))), ?_⟩
    refine ⟨_, rfl, _, _, rfl, rfl, (by show 1 ≤ sizeLine; decide), fun p hp => ?_⟩
    exact k _ p (Same.new hp) hp upd_same
theorem r_Jump_goes (T : Tx K mg) (t : Nat) : FnR P w K mg base CX0 1 (ma K (ga K "Jump") "goes") (spGoes K (.jump t)) := by
  refine fnr0 T.F_Jump_goes sc_Jump_goes (fun vs H Q E h => ?_) hb_Jump_goes (fun cdv A outer s H vs Q E hr h => ?_)
  · obtain ⟨a, i, rfl, _⟩ := h
    rfl
  · obtain ⟨a, i, rfl, ⟨dx, hx⟩, k⟩ := h
    refine ⟨_, pss_one (ps_ret (pe_lst (pa_cons (pe_fld (pv 0) rfl) pa_nil))), ?_⟩
    refine ⟨_, rfl, a, _, dx, _, _, rfl, hx, T.cl_Jump, T.no_Jump_target, rfl, (by show 1 ≤ sizeLine; decide), fun p hp => ?_⟩
    exact k _ p (Same.new hp) hp upd_same
theorem r_Branch_goes (T : Tx K mg) (b t : Nat) : FnR P w K mg base CX0 1 (ma K (ga K "Branch") "goes") (spGoes K (.branch b t)) := by
  refine fnr0 T.F_Branch_goes sc_Branch_goes (fun vs H Q E h => ?_) hb_Branch_goes (fun cdv A outer s H vs Q E hr h => ?_)
  · obtain ⟨a, i, rfl, _⟩ := h
    rfl
  · obtain ⟨a, i, rfl, ⟨dx, hx⟩, k⟩ := h
    refine ⟨_, pss_one (ps_ret (pe_lst (pa_cons (pe_op op_add (pv 1) pe_int) (pa_cons (pe_fld (pv 0) rfl) pa_nil)))), ?_⟩
    refine ⟨_, rfl, _, _, rfl, rfl, _, rfl, a, _, dx, _, _, rfl, hx, T.cl_Branch, T.no_Branch_target, rfl, (by show 2 ≤ sizeLine; decide), fun p hp => ?_⟩
    exact k _ p (Same.new hp) hp upd_same
theorem r_Back_goes (T : Tx K mg) (b : Nat) : FnR P w K mg base CX0 1 (ma K (ga K "Back") "goes") (spGoes K (.back b)) := by
  refine fnr0 T.F_Back_goes sc_Back_goes (fun vs H Q E h => ?_) hb_Back_goes (fun cdv A outer s H vs Q E hr h => ?_)
  · obtain ⟨a, i, rfl, _⟩ := h
    rfl
  · obtain ⟨a, i, rfl, _, k⟩ := h
    refine ⟨_, pss_one (ps_ret (pe_lst pa_nil)), ?_⟩
    refine ⟨(by show 0 ≤ sizeLine; decide), fun p hp => ?_⟩
    exact k _ p (Same.new hp) hp upd_same
theorem r_Drop_goes (T : Tx K mg) (b : Nat) : FnR P w K mg base CX0 1 (ma K (ga K "Drop") "goes") (spGoes K (.drop b)) := by
  refine fnr0 T.F_Drop_goes sc_Drop_goes (fun vs H Q E h => ?_) hb_Drop_goes (fun cdv A outer s H vs Q E hr h => ?_)
  · obtain ⟨a, i, rfl, _⟩ := h
    rfl
  · obtain ⟨a, i, rfl, _, k⟩ := h
    refine ⟨_, pss_one (ps_ret (pe_lst pa_nil)), ?_⟩
    refine ⟨(by show 0 ≤ sizeLine; decide), fun p hp => ?_⟩
    exact k _ p (Same.new hp) hp upd_same
theorem ok_goes (T : Tx K mg) : ∀ r : RowD, FnR P w K mg base CX0 1 (ma K (ga K (cN r)) "goes") (spGoes K r)
  | .set _ _ => (g_Row_goes T.F_Set_goes).imp fun vs H Q E ⟨a, i, e, _, k⟩ => ⟨_, i, e, k⟩
  | .copy _ _ => (g_Row_goes T.F_Copy_goes).imp fun vs H Q E ⟨a, i, e, _, k⟩ => ⟨_, i, e, k⟩
  | .add _ _ _ => (g_Row_goes T.F_Add_goes).imp fun vs H Q E ⟨a, i, e, _, k⟩ => ⟨_, i, e, k⟩
  | .grow _ => (g_Row_goes T.F_Grow_goes).imp fun vs H Q E ⟨a, i, e, _, k⟩ => ⟨_, i, e, k⟩
  | .shrink _ => (g_Row_goes T.F_Shrink_goes).imp fun vs H Q E ⟨a, i, e, _, k⟩ => ⟨_, i, e, k⟩
  | .put _ _ => (g_Row_goes T.F_Put_goes).imp fun vs H Q E ⟨a, i, e, _, k⟩ => ⟨_, i, e, k⟩
  | .get _ _ => (g_Row_goes T.F_Get_goes).imp fun vs H Q E ⟨a, i, e, _, k⟩ => ⟨_, i, e, k⟩
  | .call _ => (g_Row_goes T.F_Call_goes).imp fun vs H Q E ⟨a, i, e, _, k⟩ => ⟨_, i, e, k⟩
  | .jump t => r_Jump_goes T t
  | .branch b t => r_Branch_goes T b t
  | .back b => r_Back_goes T b
  | .drop b => r_Drop_goes T b
/-! ### height -/
def vo : Option Nat → V
  | some n => vi n
  | none => .non
def spHeight (K : PySem.W.Frag) (r : RowD) : Sp := fun vs H Q _ => ∃ (a : Addr) (h : Nat), vs = [.ref a, vi h] ∧ RowAt K H a r ∧ Q (vo (heightN r h)) H
theorem g_Row_height {f : Addr} (F : Fd K "height" "Row.height" s_Row_height f) : FnR P w K mg base CX0 1 f (fun vs H Q _ => ∃ (v u : V), vs = [v, u] ∧ Q u H) := by
  refine fnr0 F sc_Row_height (fun vs H Q E h => ?_) hb_Row_height (fun cdv A outer s H vs Q E hr h => ?_)
  · obtain ⟨v, i, rfl, _⟩ := h
    rfl
  · obtain ⟨v, i, rfl, k⟩ := h
    refine ⟨_, pss_one (ps_ret (pv 1)), ?_⟩
    exact ⟨_, rfl, k⟩
theorem r_Grow_height (T : Tx K mg) (m : Nat) : FnR P w K mg base CX0 1 (ma K (ga K "Grow") "height") (spHeight K (.grow m)) := by
  refine fnr0 T.F_Grow_height sc_Grow_height (fun vs H Q E h => ?_) hb_Grow_height (fun cdv A outer s H vs Q E hr h => ?_)
  · obtain ⟨a, i, rfl, _⟩ := h
    rfl
  · obtain ⟨a, h, rfl, ⟨dx, hx⟩, k⟩ := h
    refine ⟨_, pss_cons (ps_if (pt_cmpR op_gt (pe_op op_add (pv 1) (pe_fld (pv 0) rfl)) (pe_gi rfl T.ig_MOST_CELLS) (nomark _)) (pss_one (ps_ret pe_non)) pss_nil) (pss_one (ps_ret (pe_op op_add (pv 1) (pe_fld (pv 0) rfl)))), ?_⟩
    refine ⟨_, rfl, _, rfl, a, _, dx, _, _, rfl, hx, T.cl_Grow, T.no_Grow_many, rfl, _, _, rfl, rfl, _, _, rfl, rfl, _, rfl, ?_⟩
    refine ite2 (fun c => ?_) (fun c => ?_)
    · have c := of_decide_eq_true c
      have e : heightN (.grow m) h = none := if_pos (by omega)
      rw [e] at k
      exact k
    · have c : ¬ (4000 : Int) < (h : Int) + (m : Int) := fun z => c (decide_eq_true z)
      have e : heightN (.grow m) h = some (h + m) := if_neg (by omega)
      rw [e] at k
      exact ⟨_, rfl, _, rfl, a, _, dx, _, _, rfl, hx, T.cl_Grow, T.no_Grow_many, rfl, _, _, rfl, rfl, k⟩
theorem r_Shrink_height (T : Tx K mg) (m : Nat) : FnR P w K mg base CX0 1 (ma K (ga K "Shrink") "height") (spHeight K (.shrink m)) := by
  refine fnr0 T.F_Shrink_height sc_Shrink_height (fun vs H Q E h => ?_) hb_Shrink_height (fun cdv A outer s H vs Q E hr h => ?_)
  · obtain ⟨a, i, rfl, _⟩ := h
    rfl
  · obtain ⟨a, h, rfl, ⟨dx, hx⟩, k⟩ := h
    refine ⟨_, pss_cons (ps_if (pt_cmpR op_gt (pe_fld (pv 0) rfl) (pv 1) (nomark _)) (pss_one (ps_ret pe_non)) pss_nil) (pss_one (ps_ret (pe_op op_sub (pv 1) (pe_fld (pv 0) rfl)))), ?_⟩
    refine ⟨_, rfl, a, _, dx, _, _, rfl, hx, T.cl_Shrink, T.no_Shrink_many, rfl, _, rfl, _, _, rfl, rfl, _, rfl, ?_⟩
    refine ite2 (fun c => ?_) (fun c => ?_)
    · have c := of_decide_eq_true c
      have e : heightN (.shrink m) h = none := if_pos (by omega)
      rw [e] at k
      exact k
    · have c : ¬ (h : Int) < (m : Int) := fun z => c (decide_eq_true z)
      have e : heightN (.shrink m) h = some (h - m) := if_neg (by omega)
      rw [e] at k
      exact ⟨_, rfl, _, rfl, a, _, dx, _, _, rfl, hx, T.cl_Shrink, T.no_Shrink_many, rfl, _, _, rfl, rfl, qe (Q := Q) k (congrArg V.int (by omega))⟩
theorem g_Touch_height {f : Addr} (F : Fd K "height" "Touch.height" s_Touch_height f) : FnR P w K mg base CX0 1 f (fun vs H Q _ => ∃ (a C dx : Addr) (b c h : Nat), vs = [.ref a, vi h] ∧ H a = some (.ins C dx [("box", vi b), ("cell", vi c)]) ∧ Cls K C ∧ NoAttr K C "cell" ∧ Q (vo (if c ≥ h then none else some h)) H) := by
  refine fnr0 F sc_Touch_height (fun vs H Q E h => ?_) hb_Touch_height (fun cdv A outer s H vs Q E hr h => ?_)
  · obtain ⟨a, C, dx, b, c, h, rfl, _⟩ := h
    rfl
  · obtain ⟨a, C, dx, b, c, h, rfl, hx, hc, hn, k⟩ := h
    refine ⟨_, pss_cons (ps_if (pt_cmpR op_ge (pe_fld (pv 0) rfl) (pv 1) (nomark _)) (pss_one (ps_ret pe_non)) pss_nil) (pss_one (ps_ret (pv 1))), ?_⟩
    refine ⟨_, rfl, a, _, dx, _, _, rfl, hx, hc, hn, rfl, _, rfl, _, _, rfl, rfl, _, rfl, ?_⟩
    refine ite2 (fun q => ?_) (fun q => ?_)
    · have q := of_decide_eq_true q
      rw [if_pos (by omega)] at k
      exact k
    · have q : ¬ (h : Int) ≤ (c : Int) := fun z => q (decide_eq_true z)
      rw [if_neg (by omega)] at k
      exact ⟨_, rfl, k⟩
theorem ok_height (T : Tx K mg) : ∀ r : RowD, FnR P w K mg base CX0 1 (ma K (ga K (cN r)) "height") (spHeight K r)
  | .set _ _ => (g_Row_height T.F_Set_height).imp fun vs H Q E ⟨a, i, e, _, k⟩ => ⟨_, _, e, k⟩
  | .copy _ _ => (g_Row_height T.F_Copy_height).imp fun vs H Q E ⟨a, i, e, _, k⟩ => ⟨_, _, e, k⟩
  | .add _ _ _ => (g_Row_height T.F_Add_height).imp fun vs H Q E ⟨a, i, e, _, k⟩ => ⟨_, _, e, k⟩
  | .grow m => r_Grow_height T m
  | .shrink m => r_Shrink_height T m
  | .put _ _ => (g_Touch_height T.F_Put_height).imp fun vs H Q E ⟨a, h, e, ⟨dx, hx⟩, k⟩ => ⟨a, _, dx, _, _, h, e, hx, T.cl_Put, T.no_Put_cell, k⟩
  | .get _ _ => (g_Touch_height T.F_Get_height).imp fun vs H Q E ⟨a, h, e, ⟨dx, hx⟩, k⟩ => ⟨a, _, dx, _, _, h, e, hx, T.cl_Get, T.no_Get_cell, k⟩
  | .jump _ => (g_Row_height T.F_Jump_height).imp fun vs H Q E ⟨a, i, e, _, k⟩ => ⟨_, _, e, k⟩
  | .branch _ _ => (g_Row_height T.F_Branch_height).imp fun vs H Q E ⟨a, i, e, _, k⟩ => ⟨_, _, e, k⟩
  | .call _ => (g_Row_height T.F_Call_height).imp fun vs H Q E ⟨a, i, e, _, k⟩ => ⟨_, _, e, k⟩
  | .back _ => (g_Row_height T.F_Back_height).imp fun vs H Q E ⟨a, i, e, _, k⟩ => ⟨_, _, e, k⟩
  | .drop _ => (g_Row_height T.F_Drop_height).imp fun vs H Q E ⟨a, i, e, _, k⟩ => ⟨_, _, e, k⟩
end
end Fb

set_option Elab.async false
set_option linter.all false
set_option maxRecDepth 100000
set_option maxHeartbeats 4000000
set_option exponentiation.threshold 5000
namespace Fb
open PySem PySem.Spec PyProof.Rows L2
open He (ga ma)
def Big : Nat := 2 ^ 4008
section
variable {P : Program} {w : World} {K : PySem.W.Frag} {mg : Str → Option Value} {base : Heap}
/-! ### keeps -/
def spKeeps (K : PySem.W.Frag) (r : RowD) : Sp := fun vs H Q _ => ∃ (a : Addr) (s h : Nat), vs = [.ref a, vi s, vi h] ∧ RowAt K H a r ∧ r.ok ∧ h ≤ 4000 ∧ s < Big ∧ (∃ h', heightN r h = some h') ∧ Q (vi (keepsN r s h)) H
theorem g_Row_keeps {f : Addr} (F : Fd K "keeps" "Row.keeps" s_Row_keeps f) : FnR P w K mg base CX0 3 f (fun vs H Q _ => ∃ (v u x : V), vs = [v, u, x] ∧ Q u H) := by
  refine (fnr0 (k := 0) F sc_Row_keeps (fun vs H Q E h => ?_) hb_Row_keeps (fun cdv A outer s H vs Q E hr h => ?_)).mono (by decide)
  · obtain ⟨v, i, x, rfl, _⟩ := h
    rfl
  · obtain ⟨v, i, x, rfl, k⟩ := h
    refine ⟨_, pss_one (ps_ret (pv 1)), ?_⟩
    exact ⟨_, rfl, k⟩
theorem g_Fill_keeps (T : Tx K mg) {f : Addr} (F : Fd K "keeps" "Fill.keeps" s_Fill_keeps f) : FnR P w K mg base CX0 3 f (fun vs H Q _ => ∃ (a C dx : Addr) (s b : Nat) (h : V) (fs : List (Str × V)), vs = [.ref a, vi s, h] ∧ H a = some (.ins C dx fs) ∧ Cls K C ∧ NoAttr K C "box" ∧ fs.lookup ("box" : Str) = some (vi b) ∧ b ≤ 5000 ∧ Q (vi (woN s b)) H) := by
  refine (fnr0 (k := 1) F sc_Fill_keeps (fun vs H Q E h => ?_) hb_Fill_keeps (fun cdv A outer s H vs Q E hr h => ?_)).mono (by decide)
  · obtain ⟨a, C, dx, s, b, h, fs, rfl, _⟩ := h
    rfl
  · obtain ⟨a, C, dx, s, b, h, fs, rfl, hx, hc, hn, hl, hb, k⟩ := h
    refine ⟨_, pss_one (ps_ret (pe_f (r_without T) hr rfl T.gl_without T.kp_without pass0 (pa_cons (pv 1) (pa_cons (pe_fld (pv 0) rfl) pa_nil)))), ?_⟩
    exact ⟨_, rfl, _, rfl, a, _, dx, _, _, rfl, hx, hc, hn, hl, s, b, rfl, hb, k⟩
theorem r_Copy_keeps (T : Tx K mg) (b o : Nat) : FnR P w K mg base CX0 3 (ma K (ga K "Copy") "keeps") (spKeeps K (.copy b o)) := by
  refine fnr0 T.F_Copy_keeps sc_Copy_keeps (fun vs H Q E h => ?_) hb_Copy_keeps (fun cdv A outer s H vs Q E hr h => ?_)
  · obtain ⟨a, s, h, rfl, _⟩ := h
    rfl
  · obtain ⟨a, s, h, rfl, ⟨dx, hx⟩, ⟨h1, h2⟩, _, _, _, k⟩ := h
    refine ⟨_, pss_one (ps_ret (pe_f (r_followed T) hr rfl T.gl_followed T.kp_followed pass0 (pa_cons (pv 1) (pa_cons (pe_fld (pv 0) rfl) (pa_cons (pe_fld (pv 0) rfl) pa_nil))))), ?_⟩
    exact ⟨_, rfl, _, rfl, a, _, dx, _, _, rfl, hx, T.cl_Copy, T.no_Copy_one, rfl, _, rfl, a, _, dx, _, _, rfl, hx, T.cl_Copy, T.no_Copy_box, rfl, s, o, b, rfl, by omega, k⟩
theorem r_Put_keeps (T : Tx K mg) (b c : Nat) : FnR P w K mg base CX0 3 (ma K (ga K "Put") "keeps") (spKeeps K (.put b c)) := by
  refine fnr0 T.F_Put_keeps sc_Put_keeps (fun vs H Q E h => ?_) hb_Put_keeps (fun cdv A outer s H vs Q E hr h => ?_)
  · obtain ⟨a, s, h, rfl, _⟩ := h
    rfl
  · obtain ⟨a, s, h, rfl, ⟨dx, hx⟩, ⟨h1, h2⟩, hh, _, ⟨h', e⟩, k⟩ := h
    have hc : c < h := by
      by_cases q : c ≥ h
      · rw [show heightN (.put b c) h = none from if_pos q] at e
        cases e
      · omega
    refine ⟨_, pss_one (ps_ret (pe_f (r_followed T) hr rfl T.gl_followed T.kp_followed pass0 (pa_cons (pv 1) (pa_cons (pe_fld (pv 0) rfl) (pa_cons (pe_f (r_bit_of T) (hr.mono (by decide)) rfl T.gl_bit_of T.kp_bit_of pass0 (pa_cons (pe_fld (pv 0) rfl) (pa_cons (pv 2) pa_nil))) pa_nil))))), ?_⟩
    exact ⟨_, rfl, _, rfl, a, _, dx, _, _, rfl, hx, T.cl_Put, T.no_Put_box, rfl, _, rfl, a, _, dx, _, _, rfl, hx, T.cl_Put, T.no_Put_cell, rfl, _, rfl, c, h, rfl, hc, s, b, _, rfl, by omega, k⟩
theorem r_Get_keeps (T : Tx K mg) (b c : Nat) : FnR P w K mg base CX0 3 (ma K (ga K "Get") "keeps") (spKeeps K (.get b c)) := by
  refine fnr0 T.F_Get_keeps sc_Get_keeps (fun vs H Q E h => ?_) hb_Get_keeps (fun cdv A outer s H vs Q E hr h => ?_)
  · obtain ⟨a, s, h, rfl, _⟩ := h
    rfl
  · obtain ⟨a, s, h, rfl, ⟨dx, hx⟩, ⟨h1, h2⟩, hh, _, ⟨h', e⟩, k⟩ := h
    have hc : c < h := by
      by_cases q : c ≥ h
      · rw [show heightN (.get b c) h = none from if_pos q] at e
        cases e
      · omega
    refine ⟨_, pss_one (ps_ret (pe_f (r_followed T) hr rfl T.gl_followed T.kp_followed pass0 (pa_cons (pv 1) (pa_cons (pe_f (r_bit_of T) (hr.mono (by decide)) rfl T.gl_bit_of T.kp_bit_of pass0 (pa_cons (pe_fld (pv 0) rfl) (pa_cons (pv 2) pa_nil))) (pa_cons (pe_fld (pv 0) rfl) pa_nil))))), ?_⟩
    exact ⟨_, rfl, _, rfl, a, _, dx, _, _, rfl, hx, T.cl_Get, T.no_Get_cell, rfl, _, rfl, c, h, rfl, hc, _, rfl, a, _, dx, _, _, rfl, hx, T.cl_Get, T.no_Get_box, rfl, s, _, b, rfl, by omega, k⟩
theorem r_Shrink_keeps (T : Tx K mg) (m : Nat) : FnR P w K mg base CX0 3 (ma K (ga K "Shrink") "keeps") (spKeeps K (.shrink m)) := by
  refine fnr0 T.F_Shrink_keeps sc_Shrink_keeps (fun vs H Q E h => ?_) hb_Shrink_keeps (fun cdv A outer s H vs Q E hr h => ?_)
  · obtain ⟨a, s, h, rfl, _⟩ := h
    rfl
  · obtain ⟨a, s, h, rfl, ⟨dx, hx⟩, hok, hh, _, ⟨h', e⟩, k⟩ := h
    have hm : m ≤ h := by
      by_cases q : m > h
      · rw [show heightN (.shrink m) h = none from if_pos q] at e
        cases e
      · omega
    refine ⟨_, pss_one (ps_ret (pe_op op_and (pv 1) (pe_op op_sub (pe_op op_shl pe_int (pe_op op_sub (pe_op op_add (pe_gi rfl T.ig_BOXES_rows) (pv 2)) (pe_fld (pv 0) rfl))) pe_int))), ?_⟩
    refine ⟨_, rfl, _, rfl, _, _, rfl, rfl, _, rfl, a, _, dx, _, _, rfl, hx, T.cl_Shrink, T.no_Shrink_many, rfl, _, _, rfl, rfl, _, _, rfl, rfl, ⟨by omega, by omega, by decide⟩, _, _, rfl, rfl, _, _, rfl, rfl, qe (Q := Q) k ?_⟩
    have e1 : (8 + (h : Int) - (m : Int)).toNat = 8 + h - m := by omega
    have e2 : (1 * 2 ^ (8 + (h : Int) - (m : Int)).toNat - 1 : Int) = ((2 ^ (8 + h - m) - 1 : Nat) : Int) := by
      rw [e1, Int.one_mul, show ((2 : Int) ^ (8 + h - m)) = ((2 ^ (8 + h - m) : Nat) : Int) from (Int.natCast_pow 2 _).symm]
      have := Nat.two_pow_pos (8 + h - m)
      omega
    show V.int (Builtin.bitAnd (s : Int) (1 * 2 ^ (8 + (h : Int) - (m : Int)).toNat - 1)) = vi (s &&& (2 ^ (8 + h - m) - 1))
    rw [e2, and_nn]
    rfl
theorem r_Call_keeps (T : Tx K mg) (t : Nat) : FnR P w K mg base CX0 3 (ma K (ga K "Call") "keeps") (spKeeps K (.call t)) := by
  refine fnr0 T.F_Call_keeps sc_Call_keeps (fun vs H Q E h => ?_) hb_Call_keeps (fun cdv A outer s H vs Q E hr h => ?_)
  · obtain ⟨a, s, h, rfl, _⟩ := h
    rfl
  · obtain ⟨a, s, h, rfl, _, _, _, hs, _, k⟩ := h
    refine ⟨_, pss_one (ps_ret (pe_op op_or (pe_op op_shlW (pe_op op_shr (pv 1) (pe_gi rfl T.ig_BOXES_rows)) (pe_gi rfl T.ig_BOXES_rows)) (pe_op op_and (pv 1) (pe_gi rfl T.ig_KEPT)))), ?_⟩
    have e1 : ((s : Int) / 2 ^ ((8 : Nat) : Int).toNat) = ((s / 2 ^ 8 : Nat) : Int) := shr_nn s 8
    have e2 : (((s / 2 ^ 8 : Nat) : Int) * 2 ^ ((8 : Nat) : Int).toNat) = ((s / 2 ^ 8 * 2 ^ 8 : Nat) : Int) := shl_nn _ 8
    have e3 : Builtin.bitAnd (s : Int) 112 = ((s &&& 112 : Nat) : Int) := and_nn s 112
    have hc : CShl ((s : Int) / 2 ^ ((8 : Nat) : Int).toNat) ((8 : Nat) : Int) := by
      rw [e1]
      exact shl_ok (n := 4008) (Nat.lt_of_le_of_lt (Nat.div_le_self _ _) hs) (by decide)
    refine ⟨_, rfl, _, _, rfl, rfl, (by show (0 : Int) ≤ 8; decide), _, _, rfl, rfl, hc, _, rfl, _, _, rfl, rfl, _, _, rfl, rfl, qe (Q := Q) k ?_⟩
    show V.int (Builtin.bitOr ((s : Int) / 2 ^ ((8 : Nat) : Int).toNat * 2 ^ ((8 : Nat) : Int).toNat) (Builtin.bitAnd (s : Int) 112)) = vi ((s / 2 ^ 8 * 2 ^ 8) ||| (s &&& 112))
    rw [e1, e2, e3, or_nn]
    rfl
theorem ok_keeps (T : Tx K mg) : ∀ r : RowD, FnR P w K mg base CX0 3 (ma K (ga K (cN r)) "keeps") (spKeeps K r)
  | .set _ _ => (g_Fill_keeps T T.F_Set_keeps).imp fun vs H Q E ⟨a, s, h, e, ⟨dx, hx⟩, ok, _, _, _, k⟩ => ⟨a, _, dx, s, _, _, _, e, hx, T.cl_Set, T.no_Set_box, rfl, Nat.le_trans ok.1 (by decide), k⟩
  | .copy b o => r_Copy_keeps T b o
  | .add _ _ _ => (g_Fill_keeps T T.F_Add_keeps).imp fun vs H Q E ⟨a, s, h, e, ⟨dx, hx⟩, ok, _, _, _, k⟩ => ⟨a, _, dx, s, _, _, _, e, hx, T.cl_Add, T.no_Add_box, rfl, Nat.le_trans ok.1 (by decide), k⟩
  | .grow _ => (g_Row_keeps T.F_Grow_keeps).imp fun vs H Q E ⟨a, s, h, e, _, _, _, _, _, k⟩ => ⟨_, _, _, e, k⟩
  | .shrink m => r_Shrink_keeps T m
  | .put b c => r_Put_keeps T b c
  | .get b c => r_Get_keeps T b c
  | .jump _ => (g_Row_keeps T.F_Jump_keeps).imp fun vs H Q E ⟨a, s, h, e, _, _, _, _, _, k⟩ => ⟨_, _, _, e, k⟩
  | .branch _ _ => (g_Row_keeps T.F_Branch_keeps).imp fun vs H Q E ⟨a, s, h, e, _, _, _, _, _, k⟩ => ⟨_, _, _, e, k⟩
  | .call t => r_Call_keeps T t
  | .back _ => (g_Row_keeps T.F_Back_keeps).imp fun vs H Q E ⟨a, s, h, e, _, _, _, _, _, k⟩ => ⟨_, _, _, e, k⟩
  | .drop _ => (g_Row_keeps T.F_Drop_keeps).imp fun vs H Q E ⟨a, s, h, e, _, _, _, _, _, k⟩ => ⟨_, _, _, e, k⟩
end
end Fb

set_option Elab.async false
set_option linter.all false
set_option maxRecDepth 100000
set_option maxHeartbeats 4000000
namespace Fb
open PySem PySem.Spec PyProof.Rows L2
open He (ga ma)
/-! ### lists of numbers -/
abbrev ns (l : List Nat) : List V := l.map vi
theorem ns_get {l : List Nat} {i n : Nat} (h : l[i]? = some n) : (ns l)[i]? = some (vi n) := by
  rw [List.getElem?_map, h]
  rfl
theorem ns_getD {l : List Nat} {i : Nat} (h : i < l.length) : (ns l)[i]? = some (vi (l.getD i 0)) := by
  rw [List.getD_eq_getElem?_getD, List.getElem?_eq_getElem h]
  exact ns_get (List.getElem?_eq_getElem h)
theorem ns_set (l : List Nat) (i n : Nat) : (ns l).set i (vi n) = ns (l.set i n) := List.map_set.symm
theorem at_nat {xs : List V} {i : Int} {j : Nat} {v : V} (e : i = (j : Int)) (h : xs[j]? = some v) : atI xs i = some v := at_of e h
theorem cut_take {xs : List V} {k : Nat} (h : k ≤ xs.length) : cutV xs none (some (k : Int)) = xs.take k := by
  unfold cutV
  rw [HT.sIx_none, HT.sIx_nat, Nat.min_eq_left h, Nat.sub_zero]
  rfl
theorem le_size {n : Nat} (h : n ≤ 1000000) : n ≤ sizeLine := by
  rw [sizeLine_eq]
  omega
section
variable {P : Program} {w : World} {K : PySem.W.Frag} {mg : Str → Option Value} {base : Heap}
/-! ### making rows -/
theorem Tx.fillF (T : Tx K mg) : ClX.CRead K (ga K "Fill") (.type "type") ∧ ClX.CVal K (ga K "Fill") (.type "type") "__init__" (.ref (ma K (ga K "Fill") "__init__")) (.ref (ma K (ga K "Fill") "__init__")) := by
  have e : fillB K = true := (bb (bb T.c.2).2).2
  unfold fillB at e
  obtain ⟨e1, e⟩ := bb e
  obtain ⟨e2, e3⟩ := bb e
  refine ⟨⟨e1, He.eqO_ok e2⟩, ⟨?_, rfl⟩⟩
  cases q : PySem.W.findCls K (.ref (ga K "Fill")) (.type "type") "__init__" with
  | none =>
    rw [q] at e3
    cases e3
  | some r =>
    rw [q] at e3
    cases r with
    | val v =>
      cases v with
      | ref f =>
        have z : f = ma K (ga K "Fill") "__init__" := of_decide_eq_true e3
        rw [z]
      | _ => cases e3
    | get _ _ _ _ => cases e3
/-- what stood at other places than x stands -/
def But (x : Addr) (H H' : Hp) : Prop := ∀ b o, H b = some o → b ≠ x → H' b = some o
theorem But.upd {x : Addr} {H H' : Hp} {o : HO} (e : But x H H') : But x H (upd H' x o) := fun b u q n => by
  rw [upd_ne n]
  exact e b u q n
def spFillInit (K : PySem.W.Frag) : Sp := fun vs H Q _ => ∃ (x C dx : Addr) (b : Nat), vs = [.ref x, vi b] ∧ b ≤ 7 ∧ H x = some (.ins C dx []) ∧ Cls K C ∧ NoAttr K C "box" ∧ ∀ H', H' x = some (.ins C dx [("box", vi b)]) → But x H H' → Q .non H'
theorem r_Fill_init (T : Tx K mg) : FnR P w K mg base CX0 2 (ma K (ga K "Fill") "__init__") (spFillInit K) := by
  refine fnr0 T.F_Fill_init sc_Fill_init (fun vs H Q E h => ?_) hb_Fill_init (fun cdv A outer s H vs Q E hr h => ?_)
  · obtain ⟨x, C, dx, b, rfl, _⟩ := h
    rfl
  · obtain ⟨x, C, dx, b, rfl, hb, hx, hc, hn, k⟩ := h
    refine ⟨_, pss_one (ps_fld (pv 0) (pe_f (r_within T) hr rfl T.gl_within T.kp_within pass0 (pa_cons (pv 1) (pa_cons (pe_op op_sub (pe_gi rfl T.ig_BOXES_rows) pe_int) pa_nil))) rfl), ?_⟩
    refine ⟨_, rfl, _, _, rfl, rfl, _, _, rfl, by omega, by omega, _, rfl, x, C, dx, [], rfl, hx, hc, hn, (by show 0 < 1000; decide), ?_⟩
    exact k _ upd_same (But.upd fun b o e n => e)
def spInit (K : PySem.W.Frag) (r : RowD) : Sp := fun vs H Q _ => ∃ (x dx : Addr), vs = .ref x :: (fieldsN r).map (·.2) ∧ r.ok ∧ H x = some (.ins (ga K (cN r)) dx []) ∧ ∀ H', H' x = some (.ins (ga K (cN r)) dx (fieldsN r)) → But x H H' → Q .non H'
theorem r_Set_init (T : Tx K mg) (b n : Nat) : FnR P w K mg base CX0 3 (ma K (ga K "Set") "__init__") (spInit K (.set b n)) := by
  refine fnr0 T.F_Set_init sc_Set_init (fun vs H Q E h => ?_) hb_Set_init (fun cdv A outer s H vs Q E hr h => ?_)
  · obtain ⟨x, dx, rfl, _⟩ := h
    rfl
  · obtain ⟨x, dx, rfl, ⟨h1, h2⟩, hx, k⟩ := h
    refine ⟨_, pss_cons (ps_expr (pe_cf (pe_glob (v := V.ref (ga K "Fill")) rfl T.gl_Fill rfl) T.fillF.1 T.fillF.2 T.kp_Fill_init (r_Fill_init T) hr pass0 (pa_cons (pv 0) (pa_cons (pv 1) pa_nil))))
      (pss_one (ps_fld (pv 0) (pe_f (r_within T) (hr.mono (by decide)) rfl T.gl_within T.kp_within pass0 (pa_cons (pv 2) (pa_cons (pe_op op_sub (pe_gi rfl T.ig_WORD) pe_int) pa_nil))) rfl)), ?_⟩
    refine ⟨rfl, _, rfl, _, rfl, x, _, dx, b, rfl, h1, hx, T.cl_Set, T.no_Set_box, fun H1 hx1 k1 => ?_⟩
    refine ⟨_, rfl, _, _, rfl, rfl, _, _, rfl, by omega, by omega, _, rfl, x, _, dx, _, rfl, hx1, T.cl_Set, T.no_Set_number, (by show 1 < 1000; decide), ?_⟩
    exact k _ upd_same k1.upd
theorem r_Copy_init (T : Tx K mg) (b n : Nat) : FnR P w K mg base CX0 3 (ma K (ga K "Copy") "__init__") (spInit K (.copy b n)) := by
  refine fnr0 T.F_Copy_init sc_Copy_init (fun vs H Q E h => ?_) hb_Copy_init (fun cdv A outer s H vs Q E hr h => ?_)
  · obtain ⟨x, dx, rfl, _⟩ := h
    rfl
  · obtain ⟨x, dx, rfl, ⟨h1, h2⟩, hx, k⟩ := h
    refine ⟨_, pss_cons (ps_expr (pe_cf (pe_glob (v := V.ref (ga K "Fill")) rfl T.gl_Fill rfl) T.fillF.1 T.fillF.2 T.kp_Fill_init (r_Fill_init T) hr pass0 (pa_cons (pv 0) (pa_cons (pv 1) pa_nil))))
      (pss_one (ps_fld (pv 0) (pe_f (r_within T) (hr.mono (by decide)) rfl T.gl_within T.kp_within pass0 (pa_cons (pv 2) (pa_cons (pe_op op_sub (pe_gi rfl T.ig_BOXES_rows) pe_int) pa_nil))) rfl)), ?_⟩
    refine ⟨rfl, _, rfl, _, rfl, x, _, dx, b, rfl, h1, hx, T.cl_Copy, T.no_Copy_box, fun H1 hx1 k1 => ?_⟩
    refine ⟨_, rfl, _, _, rfl, rfl, _, _, rfl, by omega, by omega, _, rfl, x, _, dx, _, rfl, hx1, T.cl_Copy, T.no_Copy_one, (by show 1 < 1000; decide), ?_⟩
    exact k _ upd_same k1.upd
theorem r_Add_init (T : Tx K mg) (b n t : Nat) : FnR P w K mg base CX0 3 (ma K (ga K "Add") "__init__") (spInit K (.add b n t)) := by
  refine fnr0 T.F_Add_init sc_Reckon_init (fun vs H Q E h => ?_) hb_Reckon_init (fun cdv A outer s H vs Q E hr h => ?_)
  · obtain ⟨x, dx, rfl, _⟩ := h
    rfl
  · obtain ⟨x, dx, rfl, ⟨h1, h2, h3⟩, hx, k⟩ := h
    refine ⟨_, pss_cons (ps_expr (pe_cf (pe_glob (v := V.ref (ga K "Fill")) rfl T.gl_Fill rfl) T.fillF.1 T.fillF.2 T.kp_Fill_init (r_Fill_init T) hr pass0 (pa_cons (pv 0) (pa_cons (pv 1) pa_nil))))
      (pss_cons (ps_fld (pv 0) (pe_f (r_within T) (hr.mono (by decide)) rfl T.gl_within T.kp_within pass0 (pa_cons (pv 2) (pa_cons (pe_op op_sub (pe_gi rfl T.ig_BOXES_rows) pe_int) pa_nil))) rfl)
      (pss_one (ps_fld (pv 0) (pe_f (r_within T) (hr.mono (by decide)) rfl T.gl_within T.kp_within pass0 (pa_cons (pv 3) (pa_cons (pe_op op_sub (pe_gi rfl T.ig_BOXES_rows) pe_int) pa_nil))) rfl))), ?_⟩
    refine ⟨rfl, _, rfl, _, rfl, x, _, dx, b, rfl, h1, hx, T.cl_Add, T.no_Add_box, fun H1 hx1 k1 => ?_⟩
    refine ⟨_, rfl, _, _, rfl, rfl, _, _, rfl, by omega, by omega, _, rfl, x, _, dx, _, rfl, hx1, T.cl_Add, T.no_Add_one, (by show 1 < 1000; decide), ?_⟩
    refine ⟨_, rfl, _, _, rfl, rfl, _, _, rfl, by omega, by omega, _, rfl, x, _, dx, _, rfl, upd_same, T.cl_Add, T.no_Add_other, (by show 2 < 1000; decide), ?_⟩
    exact k _ upd_same k1.upd.upd
theorem r_Grow_init (T : Tx K mg) (m : Nat) : FnR P w K mg base CX0 3 (ma K (ga K "Grow") "__init__") (spInit K (.grow m)) := by
  refine (fnr0 (k := 1) T.F_Grow_init sc_Grow_init (fun vs H Q E h => ?_) hb_Grow_init (fun cdv A outer s H vs Q E hr h => ?_)).mono (by decide)
  · obtain ⟨x, dx, rfl, _⟩ := h
    rfl
  · obtain ⟨x, dx, rfl, h1, hx, k⟩ := h
    have h1 : m ≤ 5 := h1
    refine ⟨_, pss_one (ps_fld (pv 0) (pe_f (r_within T) hr rfl T.gl_within T.kp_within pass0 (pa_cons (pv 1) (pa_cons (pe_gi rfl T.ig_MOST_CELLS) pa_nil))) rfl), ?_⟩
    refine ⟨_, rfl, _, _, rfl, by omega, by omega, _, rfl, x, _, dx, [], rfl, hx, T.cl_Grow, T.no_Grow_many, (by show 0 < 1000; decide), ?_⟩
    exact k _ upd_same (But.upd fun b o e n => e)
theorem r_Shrink_init (T : Tx K mg) (m : Nat) : FnR P w K mg base CX0 3 (ma K (ga K "Shrink") "__init__") (spInit K (.shrink m)) := by
  refine (fnr0 (k := 1) T.F_Shrink_init sc_Shrink_init (fun vs H Q E h => ?_) hb_Shrink_init (fun cdv A outer s H vs Q E hr h => ?_)).mono (by decide)
  · obtain ⟨x, dx, rfl, _⟩ := h
    rfl
  · obtain ⟨x, dx, rfl, h1, hx, k⟩ := h
    have h1 : m ≤ 5 := h1
    refine ⟨_, pss_one (ps_fld (pv 0) (pe_f (r_within T) hr rfl T.gl_within T.kp_within pass0 (pa_cons (pv 1) (pa_cons (pe_gi rfl T.ig_MOST_CELLS) pa_nil))) rfl), ?_⟩
    refine ⟨_, rfl, _, _, rfl, by omega, by omega, _, rfl, x, _, dx, [], rfl, hx, T.cl_Shrink, T.no_Shrink_many, (by show 0 < 1000; decide), ?_⟩
    exact k _ upd_same (But.upd fun b o e n => e)
theorem g_Touch_init (T : Tx K mg) {f : Addr} (F : Fd K "__init__" "Touch.__init__" s_Touch_init f) : FnR P w K mg base CX0 3 f (fun vs H Q _ => ∃ (x C dx : Addr) (b c : Nat), vs = [.ref x, vi b, vi c] ∧ b ≤ 7 ∧ c ≤ 5 ∧ H x = some (.ins C dx []) ∧ Cls K C ∧ NoAttr K C "box" ∧ NoAttr K C "cell" ∧
    ∀ H', H' x = some (.ins C dx [("box", vi b), ("cell", vi c)]) → But x H H' → Q .non H') := by
  refine (fnr0 (k := 1) F sc_Touch_init (fun vs H Q E h => ?_) hb_Touch_init (fun cdv A outer s H vs Q E hr h => ?_)).mono (by decide)
  · obtain ⟨x, C, dx, b, c, rfl, _⟩ := h
    rfl
  · obtain ⟨x, C, dx, b, c, rfl, h1, h2, hx, hc, n1, n2, k⟩ := h
    refine ⟨_, pss_cons (ps_fld (pv 0) (pe_f (r_within T) hr rfl T.gl_within T.kp_within pass0 (pa_cons (pv 1) (pa_cons (pe_op op_sub (pe_gi rfl T.ig_BOXES_rows) pe_int) pa_nil))) rfl)
      (pss_one (ps_fld (pv 0) (pe_f (r_within T) hr rfl T.gl_within T.kp_within pass0 (pa_cons (pv 2) (pa_cons (pe_gi rfl T.ig_MOST_CELLS) pa_nil))) rfl)), ?_⟩
    refine ⟨_, rfl, _, _, rfl, rfl, _, _, rfl, by omega, by omega, _, rfl, x, C, dx, [], rfl, hx, hc, n1, (by show 0 < 1000; decide), ?_⟩
    refine ⟨_, rfl, _, _, rfl, by omega, by omega, _, rfl, x, C, dx, _, rfl, upd_same, hc, n2, (by show 1 < 1000; decide), ?_⟩
    exact k _ upd_same (But.upd (But.upd fun b o e n => e))
theorem r_Jump_init (T : Tx K mg) (t : Nat) : FnR P w K mg base CX0 3 (ma K (ga K "Jump") "__init__") (spInit K (.jump t)) := by
  refine (fnr0 (k := 1) T.F_Jump_init sc_Jump_init (fun vs H Q E h => ?_) hb_Jump_init (fun cdv A outer s H vs Q E hr h => ?_)).mono (by decide)
  · obtain ⟨x, dx, rfl, _⟩ := h
    rfl
  · obtain ⟨x, dx, rfl, h1, hx, k⟩ := h
    have h1 : t ≤ 2000 := h1
    refine ⟨_, pss_one (ps_fld (pv 0) (pe_f (r_within T) hr rfl T.gl_within T.kp_within pass0 (pa_cons (pv 1) (pa_cons (pe_gi rfl T.ig_MOST_ROWS) pa_nil))) rfl), ?_⟩
    refine ⟨_, rfl, _, _, rfl, by omega, by omega, _, rfl, x, _, dx, [], rfl, hx, T.cl_Jump, T.no_Jump_target, (by show 0 < 1000; decide), ?_⟩
    exact k _ upd_same (But.upd fun b o e n => e)
theorem r_Call_init (T : Tx K mg) (t : Nat) : FnR P w K mg base CX0 3 (ma K (ga K "Call") "__init__") (spInit K (.call t)) := by
  refine (fnr0 (k := 1) T.F_Call_init sc_Call_init (fun vs H Q E h => ?_) hb_Call_init (fun cdv A outer s H vs Q E hr h => ?_)).mono (by decide)
  · obtain ⟨x, dx, rfl, _⟩ := h
    rfl
  · obtain ⟨x, dx, rfl, h1, hx, k⟩ := h
    have h1 : t ≤ 2000 := h1
    refine ⟨_, pss_one (ps_fld (pv 0) (pe_f (r_within T) hr rfl T.gl_within T.kp_within pass0 (pa_cons (pv 1) (pa_cons (pe_gi rfl T.ig_MOST_ROWS) pa_nil))) rfl), ?_⟩
    refine ⟨_, rfl, _, _, rfl, by omega, by omega, _, rfl, x, _, dx, [], rfl, hx, T.cl_Call, T.no_Call_target, (by show 0 < 1000; decide), ?_⟩
    exact k _ upd_same (But.upd fun b o e n => e)
theorem r_Branch_init (T : Tx K mg) (b t : Nat) : FnR P w K mg base CX0 3 (ma K (ga K "Branch") "__init__") (spInit K (.branch b t)) := by
  refine (fnr0 (k := 1) T.F_Branch_init sc_Branch_init (fun vs H Q E h => ?_) hb_Branch_init (fun cdv A outer s H vs Q E hr h => ?_)).mono (by decide)
  · obtain ⟨x, dx, rfl, _⟩ := h
    rfl
  · obtain ⟨x, dx, rfl, ⟨h1, h2⟩, hx, k⟩ := h
    refine ⟨_, pss_cons (ps_fld (pv 0) (pe_f (r_within T) hr rfl T.gl_within T.kp_within pass0 (pa_cons (pv 1) (pa_cons (pe_op op_sub (pe_gi rfl T.ig_BOXES_rows) pe_int) pa_nil))) rfl)
      (pss_one (ps_fld (pv 0) (pe_f (r_within T) hr rfl T.gl_within T.kp_within pass0 (pa_cons (pv 2) (pa_cons (pe_gi rfl T.ig_MOST_ROWS) pa_nil))) rfl)), ?_⟩
    refine ⟨_, rfl, _, _, rfl, rfl, _, _, rfl, by omega, by omega, _, rfl, x, _, dx, [], rfl, hx, T.cl_Branch, T.no_Branch_box, (by show 0 < 1000; decide), ?_⟩
    refine ⟨_, rfl, _, _, rfl, by omega, by omega, _, rfl, x, _, dx, _, rfl, upd_same, T.cl_Branch, T.no_Branch_target, (by show 1 < 1000; decide), ?_⟩
    exact k _ upd_same (But.upd (But.upd fun b o e n => e))
theorem r_Back_init (T : Tx K mg) (b : Nat) : FnR P w K mg base CX0 3 (ma K (ga K "Back") "__init__") (spInit K (.back b)) := by
  refine (fnr0 (k := 1) T.F_Back_init sc_Back_init (fun vs H Q E h => ?_) hb_Back_init (fun cdv A outer s H vs Q E hr h => ?_)).mono (by decide)
  · obtain ⟨x, dx, rfl, _⟩ := h
    rfl
  · obtain ⟨x, dx, rfl, h1, hx, k⟩ := h
    have h1 : b ≤ 7 := h1
    refine ⟨_, pss_one (ps_fld (pv 0) (pe_f (r_within T) hr rfl T.gl_within T.kp_within pass0 (pa_cons (pv 1) (pa_cons (pe_op op_sub (pe_gi rfl T.ig_BOXES_rows) pe_int) pa_nil))) rfl), ?_⟩
    refine ⟨_, rfl, _, _, rfl, rfl, _, _, rfl, by omega, by omega, _, rfl, x, _, dx, [], rfl, hx, T.cl_Back, T.no_Back_box, (by show 0 < 1000; decide), ?_⟩
    exact k _ upd_same (But.upd fun b o e n => e)
theorem r_Drop_init (T : Tx K mg) (b : Nat) : FnR P w K mg base CX0 3 (ma K (ga K "Drop") "__init__") (spInit K (.drop b)) := by
  refine (fnr0 (k := 1) T.F_Drop_init sc_Drop_init (fun vs H Q E h => ?_) hb_Drop_init (fun cdv A outer s H vs Q E hr h => ?_)).mono (by decide)
  · obtain ⟨x, dx, rfl, _⟩ := h
    rfl
  · obtain ⟨x, dx, rfl, h1, hx, k⟩ := h
    have h1 : b ≤ 7 := h1
    refine ⟨_, pss_one (ps_fld (pv 0) (pe_f (r_within T) hr rfl T.gl_within T.kp_within pass0 (pa_cons (pv 1) (pa_cons (pe_op op_sub (pe_gi rfl T.ig_BOXES_rows) pe_int) pa_nil))) rfl), ?_⟩
    refine ⟨_, rfl, _, _, rfl, rfl, _, _, rfl, by omega, by omega, _, rfl, x, _, dx, [], rfl, hx, T.cl_Drop, T.no_Drop_box, (by show 0 < 1000; decide), ?_⟩
    exact k _ upd_same (But.upd fun b o e n => e)
theorem ok_init (T : Tx K mg) : ∀ r : RowD, FnR P w K mg base CX0 3 (ma K (ga K (cN r)) "__init__") (spInit K r)
  | .set b n => r_Set_init T b n
  | .copy b n => r_Copy_init T b n
  | .add b n t => r_Add_init T b n t
  | .grow m => r_Grow_init T m
  | .shrink m => r_Shrink_init T m
  | .put b c => (g_Touch_init T T.F_Put_init).imp fun vs H Q E ⟨x, dx, e, ok, hx, k⟩ => ⟨x, _, dx, b, c, e, ok.1, ok.2, hx, T.cl_Put, T.no_Put_box, T.no_Put_cell, k⟩
  | .get b c => (g_Touch_init T T.F_Get_init).imp fun vs H Q E ⟨x, dx, e, ok, hx, k⟩ => ⟨x, _, dx, b, c, e, ok.1, ok.2, hx, T.cl_Get, T.no_Get_box, T.no_Get_cell, k⟩
  | .jump t => r_Jump_init T t
  | .branch b t => r_Branch_init T b t
  | .call t => r_Call_init T t
  | .back b => r_Back_init T b
  | .drop b => r_Drop_init T b
/-! ### facts of a row's class, whichever it is -/
theorem Tx.clR (T : Tx K mg) : ∀ r : RowD, Cls K (ga K (cN r))
  | .set _ _ => T.cl_Set
  | .copy _ _ => T.cl_Copy
  | .add _ _ _ => T.cl_Add
  | .grow _ => T.cl_Grow
  | .shrink _ => T.cl_Shrink
  | .put _ _ => T.cl_Put
  | .get _ _ => T.cl_Get
  | .jump _ => T.cl_Jump
  | .branch _ _ => T.cl_Branch
  | .call _ => T.cl_Call
  | .back _ => T.cl_Back
  | .drop _ => T.cl_Drop
theorem Tx.me_goes (T : Tx K mg) : ∀ r : RowD, Meth K (ga K (cN r)) "goes" (ma K (ga K (cN r)) "goes")
  | .set _ _ => T.me_Set_goes
  | .copy _ _ => T.me_Copy_goes
  | .add _ _ _ => T.me_Add_goes
  | .grow _ => T.me_Grow_goes
  | .shrink _ => T.me_Shrink_goes
  | .put _ _ => T.me_Put_goes
  | .get _ _ => T.me_Get_goes
  | .jump _ => T.me_Jump_goes
  | .branch _ _ => T.me_Branch_goes
  | .call _ => T.me_Call_goes
  | .back _ => T.me_Back_goes
  | .drop _ => T.me_Drop_goes
theorem Tx.me_height (T : Tx K mg) : ∀ r : RowD, Meth K (ga K (cN r)) "height" (ma K (ga K (cN r)) "height")
  | .set _ _ => T.me_Set_height
  | .copy _ _ => T.me_Copy_height
  | .add _ _ _ => T.me_Add_height
  | .grow _ => T.me_Grow_height
  | .shrink _ => T.me_Shrink_height
  | .put _ _ => T.me_Put_height
  | .get _ _ => T.me_Get_height
  | .jump _ => T.me_Jump_height
  | .branch _ _ => T.me_Branch_height
  | .call _ => T.me_Call_height
  | .back _ => T.me_Back_height
  | .drop _ => T.me_Drop_height
theorem Tx.me_keeps (T : Tx K mg) : ∀ r : RowD, Meth K (ga K (cN r)) "keeps" (ma K (ga K (cN r)) "keeps")
  | .set _ _ => T.me_Set_keeps
  | .copy _ _ => T.me_Copy_keeps
  | .add _ _ _ => T.me_Add_keeps
  | .grow _ => T.me_Grow_keeps
  | .shrink _ => T.me_Shrink_keeps
  | .put _ _ => T.me_Put_keeps
  | .get _ _ => T.me_Get_keeps
  | .jump _ => T.me_Jump_keeps
  | .branch _ _ => T.me_Branch_keeps
  | .call _ => T.me_Call_keeps
  | .back _ => T.me_Back_keeps
  | .drop _ => T.me_Drop_keeps
theorem Tx.me_runs (T : Tx K mg) : ∀ r : RowD, Meth K (ga K (cN r)) "runs" (ma K (ga K (cN r)) "runs")
  | .set _ _ => T.me_Set_runs
  | .copy _ _ => T.me_Copy_runs
  | .add _ _ _ => T.me_Add_runs
  | .grow _ => T.me_Grow_runs
  | .shrink _ => T.me_Shrink_runs
  | .put _ _ => T.me_Put_runs
  | .get _ _ => T.me_Get_runs
  | .jump _ => T.me_Jump_runs
  | .branch _ _ => T.me_Branch_runs
  | .call _ => T.me_Call_runs
  | .back _ => T.me_Back_runs
  | .drop _ => T.me_Drop_runs
theorem no_goes : ∀ r : RowD, (fieldsN r).lookup ("goes" : Str) = none := fun r => by cases r <;> rfl
theorem no_height : ∀ r : RowD, (fieldsN r).lookup ("height" : Str) = none := fun r => by cases r <;> rfl
theorem no_keeps : ∀ r : RowD, (fieldsN r).lookup ("keeps" : Str) = none := fun r => by cases r <;> rfl
theorem no_runs : ∀ r : RowD, (fieldsN r).lookup ("runs" : Str) = none := fun r => by cases r <;> rfl
end
end Fb

set_option Elab.async false
set_option linter.all false
set_option maxRecDepth 100000
set_option maxHeartbeats 4000000
namespace Fb
open PySem PySem.Spec PyProof.Rows L2
open He (ga ma)
section
variable {P : Program} {w : World} {K : PySem.W.Frag} {mg : Str → Option Value} {base : Heap}
abbrev sl {H : Hp} {a : Addr} {xs : List V} (h : H a = some (.lst xs)) : SqL K H a xs := .inl (.inl h)
/-! ### values -/
def valueN : RowD → List Nat → Nat
  | .set _ n, _ => n
  | .copy _ o, bs => bs.getD o 0
  | .add _ o t, bs => (bs.getD o 0 + bs.getD t 0) % 4294967296
  | _, _ => 0
def spValue (K : PySem.W.Frag) (r : RowD) : Sp := fun vs H Q _ => ∃ (a bl : Addr) (bs : List Nat), vs = [.ref a, .ref bl] ∧ RowAt K H a r ∧ r.ok ∧ H bl = some (.lst (ns bs)) ∧ bs.length = 8 ∧ Q (vi (valueN r bs)) H
theorem atN {bs : List Nat} {i : Nat} (h : i < bs.length) : atI (ns bs) (i : Int) = some (vi (bs.getD i 0)) := at_nat rfl (ns_getD h)
theorem r_Set_value (T : Tx K mg) (b n : Nat) : FnR P w K mg base CX0 2 (ma K (ga K "Set") "value") (spValue K (.set b n)) := by
  refine (fnr0 (k := 0) T.F_Set_value sc_Set_value (fun vs H Q E h => ?_) hb_Set_value (fun cdv A outer s H vs Q E hr h => ?_)).mono (by decide)
  · obtain ⟨a, bl, bs, rfl, _⟩ := h
    rfl
  · obtain ⟨a, bl, bs, rfl, ⟨dx, hx⟩, _, _, _, k⟩ := h
    refine ⟨_, pss_one (ps_ret (pe_fld (pv 0) rfl)), ?_⟩
    exact ⟨_, rfl, a, _, dx, _, _, rfl, hx, T.cl_Set, T.no_Set_number, rfl, k⟩
theorem r_Copy_value (T : Tx K mg) (b n : Nat) : FnR P w K mg base CX0 2 (ma K (ga K "Copy") "value") (spValue K (.copy b n)) := by
  refine (fnr0 (k := 0) T.F_Copy_value sc_Copy_value (fun vs H Q E h => ?_) hb_Copy_value (fun cdv A outer s H vs Q E hr h => ?_)).mono (by decide)
  · obtain ⟨a, bl, bs, rfl, _⟩ := h
    rfl
  · obtain ⟨a, bl, bs, rfl, ⟨dx, hx⟩, ⟨h1, h2⟩, hb, hl, k⟩ := h
    refine ⟨_, pss_one (ps_ret (pe_ix ix_list (pv 1) (pe_fld (pv 0) rfl) (fun _ _ => rfl))), ?_⟩
    exact ⟨_, rfl, _, rfl, a, _, dx, _, _, rfl, hx, T.cl_Copy, T.no_Copy_one, rfl, bl, _, _, _, rfl, rfl, sl hb, atN (by omega), k⟩
def spCome : Sp := fun vs H Q _ => ∃ (v : V) (x y : Nat), vs = [v, vi x, vi y] ∧ Q (vi (x + y)) H
theorem r_Add_comes (T : Tx K mg) : FnR P w K mg base CX0 1 (ma K (ga K "Add") "comes_to") spCome := by
  refine fnr0 T.F_Add_comes_to sc_Add_comes_to (fun vs H Q E h => ?_) hb_Add_comes_to (fun cdv A outer s H vs Q E hr h => ?_)
  · obtain ⟨a, x, y, rfl, _⟩ := h
    rfl
  · obtain ⟨a, x, y, rfl, k⟩ := h
    refine ⟨_, pss_one (ps_ret (pe_op op_add (pv 1) (pv 2))), ?_⟩
    exact ⟨_, rfl, _, rfl, _, _, rfl, rfl, k⟩
theorem r_Add_value (T : Tx K mg) (b n t : Nat) : FnR P w K mg base CX0 2 (ma K (ga K "Add") "value") (spValue K (.add b n t)) := by
  refine fnr0 T.F_Add_value sc_Reckon_value (fun vs H Q E h => ?_) hb_Reckon_value (fun cdv A outer s H vs Q E hr h => ?_)
  · obtain ⟨a, bl, bs, rfl, _⟩ := h
    rfl
  · obtain ⟨a, bl, bs, rfl, ⟨dx, hx⟩, ⟨h1, h2, h3⟩, hb, hl, k⟩ := h
    refine ⟨_, pss_one (ps_ret (pe_op op_mod (pe_methR (pv 0) T.cl_Add T.me_Add_comes_to (r_Add_comes T) hr pass0 (pa_cons (pe_ix ix_list (pv 1) (pe_fld (pv 0) rfl) (fun _ _ => rfl)) (pa_cons (pe_ix ix_list (pv 1) (pe_fld (pv 0) rfl) (fun _ _ => rfl)) pa_nil))) (pe_gi rfl T.ig_WORD))), ?_⟩
    exact ⟨_, rfl, a, dx, _, rfl, hx, rfl, _, rfl, _, rfl, a, _, dx, _, _, rfl, hx, T.cl_Add, T.no_Add_one, rfl, bl, _, _, _, rfl, rfl, sl hb, atN (by omega),
      _, rfl, _, rfl, a, _, dx, _, _, rfl, hx, T.cl_Add, T.no_Add_other, rfl, bl, _, _, _, rfl, rfl, sl hb, atN (by omega), _, _, _, rfl, _, _, rfl, rfl, (by show (0 : Int) < 4294967296; decide), k⟩
/-! ### runs -/
def RunV (H' : Hp) (v : V) : Option (Nat × List Nat × List Nat) → Prop
  | none => v = .non
  | some (nx, bs', p') => ∃ t b q, v = .ref t ∧ H' t = some (.tup [vi nx, .ref b, .ref q]) ∧ H' b = some (.lst (ns bs')) ∧ H' q = some (.lst (ns p'))
def spRuns (K : PySem.W.Frag) (r : RowD) : Sp := fun vs H Q _ => ∃ (a bl pl : Addr) (i : Nat) (bs p : List Nat), vs = [.ref a, vi i, .ref bl, .ref pl] ∧ RowAt K H a r ∧ r.ok ∧ H bl = some (.lst (ns bs)) ∧ bs.length = 8 ∧ H pl = some (.lst (ns p)) ∧ p.length ≤ 4000 ∧
  ∀ H' v, Same H H' → RunV H' v (runsN r i bs p) → Q v H'
/-- three new things -/
theorem three {H : Hp} {b q t : Addr} {xs ys : List V} {n : Nat} (hb : H b = none) (hq : upd H b (.lst xs) q = none) (ht : upd (upd H b (.lst xs)) q (.lst ys) t = none) :
    Same H (upd (upd (upd H b (.lst xs)) q (.lst ys)) t (.tup [vi n, .ref b, .ref q])) ∧ upd (upd (upd H b (.lst xs)) q (.lst ys)) t (.tup [vi n, .ref b, .ref q]) t = some (.tup [vi n, .ref b, .ref q]) ∧
    upd (upd (upd H b (.lst xs)) q (.lst ys)) t (.tup [vi n, .ref b, .ref q]) b = some (.lst xs) ∧ upd (upd (upd H b (.lst xs)) q (.lst ys)) t (.tup [vi n, .ref b, .ref q]) q = some (.lst ys) := by
  have s1 := Same.new (o := .lst xs) hb
  have s2 := Same.new (o := .lst ys) hq
  have s3 := Same.new (o := HO.tup [vi n, .ref b, .ref q]) ht
  exact ⟨fun a o e => s3 _ _ (s2 _ _ (s1 _ _ e)), upd_same, s3 _ _ (s2 _ _ upd_same), s3 _ _ upd_same⟩
theorem g_Fill_runs (T : Tx K mg) {f fv : Addr} {r : RowD} {b : Nat} (F : Fd K "runs" "Fill.runs" s_Fill_runs f) (hc : Cls K (ga K (cN r))) (hm : Meth K (ga K (cN r)) "value" fv) (hn : NoAttr K (ga K (cN r)) "box")
    (hv : FnR P w K mg base CX0 2 fv (spValue K r)) (hbox : (fieldsN r).lookup ("box" : Str) = some (vi b)) (hno : (fieldsN r).lookup ("value" : Str) = none) (hle : r.ok → b ≤ 7) (hrun : ∀ i bs p, runsN r i bs p = some (i + 1, bs.set b (valueN r bs), p)) :
    FnR P w K mg base CX0 3 f (spRuns K r) := by
  refine fnr0 F sc_Fill_runs (fun vs H Q E h => ?_) hb_Fill_runs (fun cdv A outer s H vs Q E hr h => ?_)
  · obtain ⟨a, bl, pl, i, bs, p, rfl, _⟩ := h
    rfl
  · obtain ⟨a, bl, pl, i, bs, p, rfl, ⟨dx, hx⟩, ok, hb, hl, hp, hlp, k⟩ := h
    refine ⟨_, pss_one (ps_ret (pe_tup (pa_cons (pe_op op_add (pv 1) pe_int) (pa_cons (pe_f (r_with_value T) (hr.mono (by decide)) rfl T.gl_with_value T.kp_with_value pass0
        (pa_cons (pv 2) (pa_cons (pe_fld (pv 0) rfl) (pa_cons (pe_methR (pv 0) hc hm hv hr pass0 (pa_cons (pv 2) pa_nil)) pa_nil)))) (pa_cons (pe_callTy call_list_of rfl T.fr_list (by decide +kernel) (pa_cons (pv 3) pa_nil)) pa_nil))))), ?_⟩
    refine ⟨_, rfl, _, _, rfl, rfl, _, rfl, _, rfl, a, _, dx, _, _, rfl, hx, hc, hn, hbox, _, rfl, a, dx, _, rfl, hx, hno, _, rfl, a, bl, bs, rfl, ⟨dx, hx⟩, ok, hb, hl, bl, _, b, _, rfl, sl hb, (by have := hle ok; simp [hl]; omega), fun H1 q hs1 hq => ?_⟩
    refine ⟨_, rfl, pl, _, rfl, .inl (sl (hs1 _ _ hp)), fun l hl2 => ⟨(by show 3 ≤ sizeLine; decide), fun t ht => ?_⟩⟩
    have hq2 : upd H1 l (.lst (ns p)) q = some (.lst (ns (bs.set b (valueN r bs)))) := Same.new hl2 _ _ (by rw [← ns_set]; exact hq)
    refine k _ _ (fun a o e => Same.new ht _ _ (Same.new hl2 _ _ (hs1 _ _ e))) ?_
    rw [hrun]
    exact ⟨t, q, l, rfl, upd_same, Same.new ht _ _ hq2, Same.new ht _ _ upd_same⟩
theorem r_Grow_runs (T : Tx K mg) (m : Nat) : FnR P w K mg base CX0 3 (ma K (ga K "Grow") "runs") (spRuns K (.grow m)) := by
  refine (fnr0 (k := 0) T.F_Grow_runs sc_Grow_runs (fun vs H Q E h => ?_) hb_Grow_runs (fun cdv A outer s H vs Q E hr h => ?_)).mono (by decide)
  · obtain ⟨a, bl, pl, i, bs, p, rfl, _⟩ := h
    rfl
  · obtain ⟨a, bl, pl, i, bs, p, rfl, ⟨dx, hx⟩, ok, hb, hl, hp, hlp, k⟩ := h
    have ok : m ≤ 5 := ok
    refine ⟨_, pss_cons (ps_if (pt_cmpR op_gt (pe_op op_add (pe_callB call_len_seq rfl T.fr_len (by decide +kernel) (pa_cons (pv 3) pa_nil)) (pe_fld (pv 0) rfl)) (pe_gi rfl T.ig_MOST_CELLS) (nomark _)) (pss_one (ps_ret pe_non)) pss_nil)
      (pss_one (ps_ret (pe_tup (pa_cons (pe_op op_add (pv 1) pe_int) (pa_cons (pe_callTy call_list_of rfl T.fr_list (by decide +kernel) (pa_cons (pv 2) pa_nil)) (pa_cons (pe_op op_cat (pv 3) (pe_op op_rep (pe_lst (pa_cons pe_int pa_nil)) (pe_fld (pv 0) rfl))) pa_nil)))))), ?_⟩
    refine ⟨_, rfl, pl, _, rfl, .inl (sl hp), _, rfl, a, _, dx, _, _, rfl, hx, T.cl_Grow, T.no_Grow_many, rfl, _, _, rfl, rfl, _, _, rfl, rfl, _, rfl, ?_⟩
    have e0 : (ns p).length = p.length := List.length_map ..
    refine ite2 (fun c => ?_) (fun c => ?_)
    · have c := of_decide_eq_true c
      refine k _ _ (fun _ _ e => e) ?_
      rw [show runsN (.grow m) i bs p = none from if_pos (by omega)]
      rfl
    · have c : ¬ (4000 : Int) < ((ns p).length : Int) + (m : Int) := fun z => c (decide_eq_true z)
      refine ⟨_, rfl, _, _, rfl, rfl, _, rfl, bl, _, rfl, .inl (sl hb), fun l hl2 => ?_⟩
      have s1 := Same.new (o := .lst (ns bs)) hl2
      refine ⟨_, rfl, (by show 1 ≤ sizeLine; decide), fun z hz => ?_⟩
      have s2 := Same.new (o := .lst [V.int 0]) hz
      refine ⟨_, rfl, a, _, dx, _, _, rfl, s2 _ _ (s1 _ _ hx), T.cl_Grow, T.no_Grow_many, rfl, z, _, _, rfl, rfl, upd_same, by omega, by omega, le_size (by simp; omega), fun y hy => ?_⟩
      have s3 := Same.new (o := .lst (List.replicate (m : Int).toNat [V.int 0]).flatten) hy
      refine ⟨pl, y, _, _, rfl, rfl, s3 _ _ (s2 _ _ (s1 _ _ hp)), upd_same, le_size (by simp; omega), fun q hq => ⟨(by show 3 ≤ sizeLine; decide), fun t ht => ?_⟩⟩
      have e : ns p ++ (List.replicate (m : Int).toNat [V.int 0]).flatten = ns (p ++ List.replicate m 0) := by
        show _ = List.map vi _
        rw [List.map_append, List.map_replicate, List.flatten_replicate_singleton]
        rfl
      have s4 := Same.new (o := .lst (ns p ++ (List.replicate (m : Int).toNat [V.int 0]).flatten)) hq
      have s5 := Same.new (o := .tup [.int ((i : Int) + 1), .ref l, .ref q]) ht
      refine k _ _ (fun a o e => s5 _ _ (s4 _ _ (s3 _ _ (s2 _ _ (s1 _ _ e))))) ?_
      rw [show runsN (.grow m) i bs p = some (i + 1, bs, p ++ List.replicate m 0) from if_neg (by omega)]
      exact ⟨t, l, q, rfl, upd_same, s5 _ _ (s4 _ _ (s3 _ _ (s2 _ _ upd_same))), s5 _ _ (by rw [upd_same, e])⟩
theorem r_Shrink_runs (T : Tx K mg) (m : Nat) : FnR P w K mg base CX0 3 (ma K (ga K "Shrink") "runs") (spRuns K (.shrink m)) := by
  refine (fnr0 (k := 0) T.F_Shrink_runs sc_Shrink_runs (fun vs H Q E h => ?_) hb_Shrink_runs (fun cdv A outer s H vs Q E hr h => ?_)).mono (by decide)
  · obtain ⟨a, bl, pl, i, bs, p, rfl, _⟩ := h
    rfl
  · obtain ⟨a, bl, pl, i, bs, p, rfl, ⟨dx, hx⟩, ok, hb, hl, hp, hlp, k⟩ := h
    refine ⟨_, pss_cons (ps_if (pt_cmpR op_gt (pe_fld (pv 0) rfl) (pe_callB call_len_seq rfl T.fr_len (by decide +kernel) (pa_cons (pv 3) pa_nil)) (nomark _)) (pss_one (ps_ret pe_non)) pss_nil)
      (pss_one (ps_ret (pe_tup (pa_cons (pe_op op_add (pv 1) pe_int) (pa_cons (pe_callTy call_list_of rfl T.fr_list (by decide +kernel) (pa_cons (pv 2) pa_nil)) (pa_cons (pe_slice sl_list (pv 3) po_none (po_some (pe_op op_sub (pe_callB call_len_seq rfl T.fr_len (by decide +kernel) (pa_cons (pv 3) pa_nil)) (pe_fld (pv 0) rfl)))) pa_nil)))))), ?_⟩
    have e0 : (ns p).length = p.length := List.length_map ..
    refine ⟨_, rfl, a, _, dx, _, _, rfl, hx, T.cl_Shrink, T.no_Shrink_many, rfl, _, rfl, pl, _, rfl, .inl (sl hp), _, _, rfl, rfl, _, rfl, ?_⟩
    refine ite2 (fun c => ?_) (fun c => ?_)
    · have c := of_decide_eq_true c
      refine k _ _ (fun _ _ e => e) ?_
      rw [show runsN (.shrink m) i bs p = none from if_pos (by omega)]
      rfl
    · have c : ¬ ((ns p).length : Int) < (m : Int) := fun z => c (decide_eq_true z)
      refine ⟨_, rfl, _, _, rfl, rfl, _, rfl, bl, _, rfl, .inl (sl hb), fun l hl2 => ?_⟩
      have s1 := Same.new (o := .lst (ns bs)) hl2
      refine ⟨_, rfl, _, rfl, pl, _, rfl, .inl (sl (s1 _ _ hp)), _, rfl, a, _, dx, _, _, rfl, s1 _ _ hx, T.cl_Shrink, T.no_Shrink_many, rfl, _, _, rfl, rfl, _, rfl, pl, _, rfl, sl (s1 _ _ hp), fun q hq => ⟨(by show 3 ≤ sizeLine; decide), fun t ht => ?_⟩⟩
      have e : cutV (ns p) none (some (((ns p).length : Int) - (m : Int))) = ns (p.take (p.length - m)) := by
        rw [show ((ns p).length : Int) - (m : Int) = ((p.length - m : Nat) : Int) by omega, cut_take (by omega)]
        exact List.map_take.symm
      have s4 := Same.new (o := .lst (cutV (ns p) none (some (((ns p).length : Int) - (m : Int))))) hq
      have s5 := Same.new (o := .tup [.int ((i : Int) + 1), .ref l, .ref q]) ht
      refine k _ _ (fun a o e => s5 _ _ (s4 _ _ (s1 _ _ e))) ?_
      rw [show runsN (.shrink m) i bs p = some (i + 1, bs, p.take (p.length - m)) from if_neg (by omega)]
      exact ⟨t, l, q, rfl, upd_same, s5 _ _ (s4 _ _ upd_same), s5 _ _ (by rw [upd_same, e])⟩
theorem r_Put_runs (T : Tx K mg) (b c : Nat) : FnR P w K mg base CX0 3 (ma K (ga K "Put") "runs") (spRuns K (.put b c)) := by
  refine (fnr0 (k := 0) T.F_Put_runs sc_Put_runs (fun vs H Q E h => ?_) hb_Put_runs (fun cdv A outer s H vs Q E hr h => ?_)).mono (by decide)
  · obtain ⟨a, bl, pl, i, bs, p, rfl, _⟩ := h
    rfl
  · obtain ⟨a, bl, pl, i, bs, p, rfl, ⟨dx, hx⟩, ⟨ok1, ok2⟩, hb, hl, hp, hlp, k⟩ := h
    refine ⟨_, pss_cons (ps_if (pt_cmpR op_ge (pe_fld (pv 0) rfl) (pe_callB call_len_seq rfl T.fr_len (by decide +kernel) (pa_cons (pv 3) pa_nil)) (nomark _)) (pss_one (ps_ret pe_non)) pss_nil)
      (pss_cons (ps_set (i := 4) sc_Put_runs.nd rfl (.inl rfl) (pe_callTy call_list_of rfl T.fr_list (by decide +kernel) (pa_cons (pv 3) pa_nil)))
      (pss_cons (ps_asg (pe_ix ix_list (pv 2) (pe_fld (pv 0) rfl) (fun _ _ => rfl)) (pg_sub (pv 4) (pe_op op_sub (pe_op op_sub (pe_callB call_len_seq rfl T.fr_len (by decide +kernel) (pa_cons (pv 3) pa_nil)) pe_int) (pe_fld (pv 0) rfl)) set_list))
      (pss_one (ps_ret (pe_tup (pa_cons (pe_op op_add (pv 1) pe_int) (pa_cons (pe_callTy call_list_of rfl T.fr_list (by decide +kernel) (pa_cons (pv 2) pa_nil)) (pa_cons (pv 4) pa_nil)))))))), ?_⟩
    have e0 : (ns p).length = p.length := List.length_map ..
    refine ⟨_, rfl, a, _, dx, _, _, rfl, hx, T.cl_Put, T.no_Put_cell, rfl, _, rfl, pl, _, rfl, .inl (sl hp), _, _, rfl, rfl, _, rfl, ?_⟩
    refine ite2 (fun q => ?_) (fun q => ?_)
    · have q := of_decide_eq_true q
      refine k _ _ (fun _ _ e => e) ?_
      rw [show runsN (.put b c) i bs p = none from if_pos (by omega)]
      rfl
    · have q : ¬ ((ns p).length : Int) ≤ (c : Int) := fun z => q (decide_eq_true z)
      refine ⟨_, rfl, pl, _, rfl, .inl (sl hp), fun l hl2 => ?_⟩
      have s1 := Same.new (o := .lst (ns p)) hl2
      refine ⟨_, rfl, _, rfl, a, _, dx, _, _, rfl, s1 _ _ hx, T.cl_Put, T.no_Put_box, rfl, bl, _, _, _, rfl, rfl, sl (s1 _ _ hb), atN (by omega), ?_⟩
      refine ⟨_, rfl, _, rfl, pl, _, rfl, .inl (sl (s1 _ _ hp)), _, _, rfl, rfl, _, rfl, a, _, dx, _, _, rfl, s1 _ _ hx, T.cl_Put, T.no_Put_cell, rfl, _, _, rfl, rfl, l, _, _, p.length - 1 - c, rfl, rfl, upd_same, ?_, ?_⟩
      · rw [show ((ns p).length : Int) - 1 - (c : Int) = ((p.length - 1 - c : Nat) : Int) by omega]
        exact ixN_nat (by omega)
      have s2 := Same.mut (o := .lst ((ns p).set (p.length - 1 - c) (vi (bs.getD b 0)))) s1 hl2
      refine ⟨_, rfl, _, _, rfl, rfl, _, rfl, bl, _, rfl, .inl (sl (s2 _ _ hb)), fun z hz => ?_⟩
      have s3 := Same.new (o := .lst (ns bs)) hz
      refine ⟨_, rfl, (by show 3 ≤ sizeLine; decide), fun t ht => ?_⟩
      have s5 := Same.new (o := .tup [.int ((i : Int) + 1), .ref z, .ref l]) ht
      refine k _ _ (fun a o e => s5 _ _ (s3 _ _ (s2 _ _ e))) ?_
      rw [show runsN (.put b c) i bs p = some (i + 1, bs, p.set (p.length - 1 - c) (bs.getD b 0)) from if_neg (by omega)]
      exact ⟨t, z, l, rfl, upd_same, s5 _ _ upd_same, s5 _ _ (s3 _ _ (by rw [upd_same, ns_set]))⟩
theorem r_Get_runs (T : Tx K mg) (b c : Nat) : FnR P w K mg base CX0 3 (ma K (ga K "Get") "runs") (spRuns K (.get b c)) := by
  refine (fnr0 (k := 1) T.F_Get_runs sc_Get_runs (fun vs H Q E h => ?_) hb_Get_runs (fun cdv A outer s H vs Q E hr h => ?_)).mono (by decide)
  · obtain ⟨a, bl, pl, i, bs, p, rfl, _⟩ := h
    rfl
  · obtain ⟨a, bl, pl, i, bs, p, rfl, ⟨dx, hx⟩, ⟨ok1, ok2⟩, hb, hl, hp, hlp, k⟩ := h
    refine ⟨_, pss_cons (ps_if (pt_cmpR op_ge (pe_fld (pv 0) rfl) (pe_callB call_len_seq rfl T.fr_len (by decide +kernel) (pa_cons (pv 3) pa_nil)) (nomark _)) (pss_one (ps_ret pe_non)) pss_nil)
      (pss_one (ps_ret (pe_tup (pa_cons (pe_op op_add (pv 1) pe_int) (pa_cons (pe_f (r_with_value T) hr rfl T.gl_with_value T.kp_with_value pass0 (pa_cons (pv 2) (pa_cons (pe_fld (pv 0) rfl) (pa_cons (pe_ix ix_list (pv 3) (pe_op op_sub (pe_op op_sub (pe_callB call_len_seq rfl T.fr_len (by decide +kernel) (pa_cons (pv 3) pa_nil)) pe_int) (pe_fld (pv 0) rfl)) (fun _ _ => rfl)) pa_nil))))
        (pa_cons (pe_callTy call_list_of rfl T.fr_list (by decide +kernel) (pa_cons (pv 3) pa_nil)) pa_nil)))))), ?_⟩
    have e0 : (ns p).length = p.length := List.length_map ..
    refine ⟨_, rfl, a, _, dx, _, _, rfl, hx, T.cl_Get, T.no_Get_cell, rfl, _, rfl, pl, _, rfl, .inl (sl hp), _, _, rfl, rfl, _, rfl, ?_⟩
    refine ite2 (fun q => ?_) (fun q => ?_)
    · have q := of_decide_eq_true q
      refine k _ _ (fun _ _ e => e) ?_
      rw [show runsN (.get b c) i bs p = none from if_pos (by omega)]
      rfl
    · have q : ¬ ((ns p).length : Int) ≤ (c : Int) := fun z => q (decide_eq_true z)
      refine ⟨_, rfl, _, _, rfl, rfl, _, rfl, _, rfl, a, _, dx, _, _, rfl, hx, T.cl_Get, T.no_Get_box, rfl, _, rfl, _, rfl, pl, _, rfl, .inl (sl hp), _, _, rfl, rfl, _, rfl, a, _, dx, _, _, rfl, hx, T.cl_Get, T.no_Get_cell, rfl, _, _, rfl, rfl,
        pl, _, _, vi (p.getD (p.length - 1 - c) 0), rfl, rfl, sl hp, ?_, bl, _, b, _, rfl, sl hb, by simp [hl]; omega, fun H1 z hs1 hz => ?_⟩
      · rw [show ((ns p).length : Int) - 1 - (c : Int) = ((p.length - 1 - c : Nat) : Int) by omega]
        exact atN (by omega)
      refine ⟨_, rfl, pl, _, rfl, .inl (sl (hs1 _ _ hp)), fun l hl2 => ⟨(by show 3 ≤ sizeLine; decide), fun t ht => ?_⟩⟩
      have s2 := Same.new (o := .lst (ns p)) hl2
      have s5 := Same.new (o := .tup [.int ((i : Int) + 1), .ref z, .ref l]) ht
      refine k _ _ (fun a o e => s5 _ _ (s2 _ _ (hs1 _ _ e))) ?_
      rw [show runsN (.get b c) i bs p = some (i + 1, bs.set b (p.getD (p.length - 1 - c) 0), p) from if_neg (by omega)]
      exact ⟨t, z, l, rfl, upd_same, s5 _ _ (s2 _ _ (by rw [hz, ns_set])), s5 _ _ upd_same⟩
theorem r_Jump_runs (T : Tx K mg) (tg : Nat) : FnR P w K mg base CX0 3 (ma K (ga K "Jump") "runs") (spRuns K (.jump tg)) := by
  refine (fnr0 (k := 0) T.F_Jump_runs sc_Jump_runs (fun vs H Q E h => ?_) hb_Jump_runs (fun cdv A outer s H vs Q E hr h => ?_)).mono (by decide)
  · obtain ⟨a, bl, pl, i, bs, p, rfl, _⟩ := h
    rfl
  · obtain ⟨a, bl, pl, i, bs, p, rfl, ⟨dx, hx⟩, ok, hb, hl, hp, hlp, k⟩ := h
    refine ⟨_, pss_one (ps_ret (pe_tup (pa_cons (pe_fld (pv 0) rfl) (pa_cons (pe_callTy call_list_of rfl T.fr_list (by decide +kernel) (pa_cons (pv 2) pa_nil)) (pa_cons (pe_callTy call_list_of rfl T.fr_list (by decide +kernel) (pa_cons (pv 3) pa_nil)) pa_nil))))), ?_⟩
    refine ⟨_, rfl, a, _, dx, _, _, rfl, hx, T.cl_Jump, T.no_Jump_target, rfl, _, rfl, bl, _, rfl, .inl (sl hb), fun x hx2 => ⟨_, rfl, pl, _, rfl, .inl (sl (Same.new hx2 _ _ hp)), fun y hy => ⟨(by show 3 ≤ sizeLine; decide), fun t ht => ?_⟩⟩⟩
    obtain ⟨q1, q2, q3, q4⟩ := three (n := tg) hx2 hy ht
    exact k _ _ q1 ⟨t, x, y, rfl, q2, q3, q4⟩
theorem r_Branch_runs (T : Tx K mg) (b tg : Nat) : FnR P w K mg base CX0 3 (ma K (ga K "Branch") "runs") (spRuns K (.branch b tg)) := by
  refine (fnr0 (k := 0) T.F_Branch_runs sc_Branch_runs (fun vs H Q E h => ?_) hb_Branch_runs (fun cdv A outer s H vs Q E hr h => ?_)).mono (by decide)
  · obtain ⟨a, bl, pl, i, bs, p, rfl, _⟩ := h
    rfl
  · obtain ⟨a, bl, pl, i, bs, p, rfl, ⟨dx, hx⟩, ⟨ok1, ok2⟩, hb, hl, hp, hlp, k⟩ := h
    refine ⟨_, pss_cons (ps_if (pt_cmpR op_ne (pe_ix ix_list (pv 2) (pe_fld (pv 0) rfl) (fun _ _ => rfl)) pe_int (nomark _))
      (pss_one (ps_ret (pe_tup (pa_cons (pe_fld (pv 0) rfl) (pa_cons (pe_callTy call_list_of rfl T.fr_list (by decide +kernel) (pa_cons (pv 2) pa_nil)) (pa_cons (pe_callTy call_list_of rfl T.fr_list (by decide +kernel) (pa_cons (pv 3) pa_nil)) pa_nil)))))) pss_nil)
      (pss_one (ps_ret (pe_tup (pa_cons (pe_op op_add (pv 1) pe_int) (pa_cons (pe_callTy call_list_of rfl T.fr_list (by decide +kernel) (pa_cons (pv 2) pa_nil)) (pa_cons (pe_callTy call_list_of rfl T.fr_list (by decide +kernel) (pa_cons (pv 3) pa_nil)) pa_nil)))))), ?_⟩
    refine ⟨_, rfl, _, rfl, a, _, dx, _, _, rfl, hx, T.cl_Branch, T.no_Branch_box, rfl, bl, _, _, _, rfl, rfl, sl hb, atN (by omega), rfl, _, rfl, ?_⟩
    have e3 : decide (vi (bs.getD b 0) = V.int 0) = decide (bs.getD b 0 = 0) := decide_eq_decide.mpr ⟨fun e => by have := V.int.inj e; omega, fun e => by rw [e]; rfl⟩
    by_cases c : bs.getD b 0 = 0
    · rw [e3, decide_eq_true c]
      refine iteF ⟨_, rfl, _, _, rfl, rfl, _, rfl, bl, _, rfl, .inl (sl hb), fun x hx2 => ⟨_, rfl, pl, _, rfl, .inl (sl (Same.new hx2 _ _ hp)), fun y hy => ⟨(by show 3 ≤ sizeLine; decide), fun t ht => ?_⟩⟩⟩
      obtain ⟨q1, q2, q3, q4⟩ := three (n := i + 1) hx2 hy ht
      refine k _ _ q1 ?_
      rw [show runsN (.branch b tg) i bs p = some (i + 1, bs, p) from if_neg (fun z => z c)]
      exact ⟨t, x, y, rfl, q2, q3, q4⟩
    · rw [e3, decide_eq_false c]
      refine iteT ⟨_, rfl, a, _, dx, _, _, rfl, hx, T.cl_Branch, T.no_Branch_target, rfl, _, rfl, bl, _, rfl, .inl (sl hb), fun x hx2 => ⟨_, rfl, pl, _, rfl, .inl (sl (Same.new hx2 _ _ hp)), fun y hy => ⟨(by show 3 ≤ sizeLine; decide), fun t ht => ?_⟩⟩⟩
      obtain ⟨q1, q2, q3, q4⟩ := three (n := tg) hx2 hy ht
      refine k _ _ q1 ?_
      rw [show runsN (.branch b tg) i bs p = some (tg, bs, p) from if_pos c]
      exact ⟨t, x, y, rfl, q2, q3, q4⟩
theorem r_Call_runs (T : Tx K mg) (tg : Nat) : FnR P w K mg base CX0 3 (ma K (ga K "Call") "runs") (spRuns K (.call tg)) := by
  refine (fnr0 (k := 1) T.F_Call_runs sc_Call_runs (fun vs H Q E h => ?_) hb_Call_runs (fun cdv A outer s H vs Q E hr h => ?_)).mono (by decide)
  · obtain ⟨a, bl, pl, i, bs, p, rfl, _⟩ := h
    rfl
  · obtain ⟨a, bl, pl, i, bs, p, rfl, ⟨dx, hx⟩, ok, hb, hl, hp, hlp, k⟩ := h
    refine ⟨_, pss_one (ps_ret (pe_tup (pa_cons (pe_fld (pv 0) rfl) (pa_cons (pe_f (r_with_value T) hr rfl T.gl_with_value T.kp_with_value pass0 (pa_cons (pv 2) (pa_cons (pe_gi rfl T.ig_LINK) (pa_cons (pe_op op_add (pv 1) pe_int) pa_nil)))) (pa_cons (pe_callTy call_list_of rfl T.fr_list (by decide +kernel) (pa_cons (pv 3) pa_nil)) pa_nil))))), ?_⟩
    refine ⟨_, rfl, a, _, dx, _, _, rfl, hx, T.cl_Call, T.no_Call_target, rfl, _, rfl, _, rfl, _, _, rfl, rfl, bl, _, 7, vi (i + 1), rfl, sl hb, (by simp [hl]), fun H1 z hs1 hz => ?_⟩
    refine ⟨_, rfl, pl, _, rfl, .inl (sl (hs1 _ _ hp)), fun l hl2 => ⟨(by show 3 ≤ sizeLine; decide), fun t ht => ?_⟩⟩
    have s2 := Same.new (o := .lst (ns p)) hl2
    have s5 := Same.new (o := .tup [vi tg, .ref z, .ref l]) ht
    exact k _ _ (fun a o e => s5 _ _ (s2 _ _ (hs1 _ _ e))) ⟨t, z, l, rfl, upd_same, s5 _ _ (s2 _ _ (by rw [hz, ns_set])), s5 _ _ upd_same⟩
theorem r_Back_runs (T : Tx K mg) (b : Nat) : FnR P w K mg base CX0 3 (ma K (ga K "Back") "runs") (spRuns K (.back b)) := by
  refine (fnr0 (k := 0) T.F_Back_runs sc_Back_runs (fun vs H Q E h => ?_) hb_Back_runs (fun cdv A outer s H vs Q E hr h => ?_)).mono (by decide)
  · obtain ⟨a, bl, pl, i, bs, p, rfl, _⟩ := h
    rfl
  · obtain ⟨a, bl, pl, i, bs, p, rfl, ⟨dx, hx⟩, ok, hb, hl, hp, hlp, k⟩ := h
    have ok : b ≤ 7 := ok
    refine ⟨_, pss_one (ps_ret (pe_tup (pa_cons (pe_ix ix_list (pv 2) (pe_fld (pv 0) rfl) (fun _ _ => rfl)) (pa_cons (pe_callTy call_list_of rfl T.fr_list (by decide +kernel) (pa_cons (pv 2) pa_nil)) (pa_cons (pe_callTy call_list_of rfl T.fr_list (by decide +kernel) (pa_cons (pv 3) pa_nil)) pa_nil))))), ?_⟩
    refine ⟨_, rfl, _, rfl, a, _, dx, _, _, rfl, hx, T.cl_Back, T.no_Back_box, rfl, bl, _, _, _, rfl, rfl, sl hb, atN (by omega), _, rfl, bl, _, rfl, .inl (sl hb), fun x hx2 => ⟨_, rfl, pl, _, rfl, .inl (sl (Same.new hx2 _ _ hp)), fun y hy => ⟨(by show 3 ≤ sizeLine; decide), fun t ht => ?_⟩⟩⟩
    obtain ⟨q1, q2, q3, q4⟩ := three (n := bs.getD b 0) hx2 hy ht
    exact k _ _ q1 ⟨t, x, y, rfl, q2, q3, q4⟩
theorem ok_runs (T : Tx K mg) : ∀ r : RowD, (∀ b, r ≠ .drop b) → FnR P w K mg base CX0 3 (ma K (ga K (cN r)) "runs") (spRuns K r)
  | .set b n, _ => g_Fill_runs T (r := .set b n) T.F_Set_runs T.cl_Set T.me_Set_value T.no_Set_box (r_Set_value T b n) rfl rfl (fun ok => ok.1) (fun _ _ _ => rfl)
  | .copy b n, _ => g_Fill_runs T (r := .copy b n) T.F_Copy_runs T.cl_Copy T.me_Copy_value T.no_Copy_box (r_Copy_value T b n) rfl rfl (fun ok => ok.1) (fun _ _ _ => rfl)
  | .add b n t, _ => g_Fill_runs T (r := .add b n t) T.F_Add_runs T.cl_Add T.me_Add_value T.no_Add_box (r_Add_value T b n t) rfl rfl (fun ok => ok.1) (fun _ _ _ => rfl)
  | .grow m, _ => r_Grow_runs T m
  | .shrink m, _ => r_Shrink_runs T m
  | .put b c, _ => r_Put_runs T b c
  | .get b c, _ => r_Get_runs T b c
  | .jump t, _ => r_Jump_runs T t
  | .branch b t, _ => r_Branch_runs T b t
  | .call t, _ => r_Call_runs T t
  | .back b, _ => r_Back_runs T b
  | .drop b, h => absurd rfl (h b)
end
end Fb

set_option Elab.async false
set_option linter.all false
set_option maxRecDepth 100000
set_option maxHeartbeats 4000000
namespace Fb
open PySem PySem.Spec PyProof.Rows L2
open He (ga ma)
/-! ### a def with defaults -/
section
variable {P : Program} {w : World} {K : PySem.W.Frag} {mg : Str → Option Value} {base : Heap}
theorem fnrD {CX : CXT} {x qual : Str} {params : Arguments} {body : List Stmt} {scope : Scope} {f : Addr} {N ps : List Str} {k : Nat} {sp : Sp} {dvs : List V} (n j : Nat) (hd : dvs ≠ []) (hn : n + (dvs.length - j) = ps.length) (F : ∃ fd, FunD K x qual params body scope dvs [] f fd) (S : FnScope N ps scope)
    (len : ∀ vs H Q E, sp vs H Q E → vs.length = ps.length)
    (hb : ∀ (T : Addr) (kV doc pm : Value) (an : Option Addr) (cdv ct : Value) (us its : List Value), us.length = n → its.length = dvs.length →
      ∃ k, bindArgs (PySem.W.fnOf x qual params body scope (.ref T) kV doc pm an cdv ct) ⟨us, []⟩ = seqItems? (.ref T) >>= k ∧ k (some its.toArray) = pure (ps.zip (us ++ its.drop j)))
    (hbody : ∀ (cdv : Value) (A : Around) (outer : List Env) (s : Shared) (H : Hp) (vs : List V) (Q : VK) (E : XK), Room k (A.deeper (envOfC qual scope s.heap.objs.size f cdv)) → sp vs H Q E →
      ∃ t, PSs (cxOf CX P w K mg base N qual scope f cdv A outer s H E) body t ∧ t { nx := fun _ H' => Q .non H', rt := Q } (start N vs) H) : FnR P w K mg base CX (k + 1) f (fun vs H Q E => sp (vs ++ dvs.drop j) H Q E) := by
  obtain ⟨fd, F⟩ := F
  obtain ⟨ds, rv, bd⟩ := F.binds1 n j hd hn hb
  exact (F.ok S len hbody).raw bd rv
end
/-! ### lists whose items stand for data -/
def Al {α : Type} (R : V → α → Prop) (xs : List V) (l : List α) : Prop := xs.length = l.length ∧ ∀ (i : Nat) q, l[i]? = some q → ∃ v, xs[i]? = some v ∧ R v q
theorem Al.nil {α : Type} {R : V → α → Prop} : Al R [] [] := ⟨rfl, fun i q h => by simp at h⟩
theorem Al.imp {α : Type} {R R' : V → α → Prop} {xs : List V} {l : List α} (h : Al R xs l) (f : ∀ v q, R v q → R' v q) : Al R' xs l := ⟨h.1, fun i q e => let ⟨v, a, b⟩ := h.2 i q e; ⟨v, a, f _ _ b⟩⟩
theorem Al.push {α : Type} {R : V → α → Prop} {xs : List V} {l : List α} {v : V} {q : α} (h : Al R xs l) (r : R v q) : Al R (xs ++ [v]) (l ++ [q]) := by
  refine ⟨by simp [h.1], fun i p e => ?_⟩
  by_cases c : i < l.length
  · rw [List.getElem?_append_left c] at e
    rw [List.getElem?_append_left (by rw [h.1]; exact c)]
    exact h.2 i p e
  · have : i = l.length := by
      have := (List.getElem?_eq_some_iff.mp e).1
      simp at this
      omega
    subst this
    rw [List.getElem?_append_right (Nat.le_refl _), Nat.sub_self] at e
    cases e
    refine ⟨v, ?_, r⟩
    rw [← h.1, List.getElem?_append_right (Nat.le_refl _), Nat.sub_self]
    rfl
theorem Al.set {α : Type} {R : V → α → Prop} {xs : List V} {l : List α} {v : V} {q : α} {j : Nat} (h : Al R xs l) (r : R v q) : Al R (xs.set j v) (l.set j q) := by
  refine ⟨by simp [h.1], fun i p e => ?_⟩
  by_cases c : j = i
  · subst c
    have hj : j < l.length := by
      have := (List.getElem?_eq_some_iff.mp e).1
      simpa using this
    rw [List.getElem?_set_self hj] at e
    cases e
    exact ⟨v, List.getElem?_set_self (by rw [h.1]; exact hj), r⟩
  · rw [List.getElem?_set_ne c] at e
    obtain ⟨u, a, b⟩ := h.2 i p e
    exact ⟨u, by rw [List.getElem?_set_ne c]; exact a, b⟩
theorem Al.back {α : Type} {R : V → α → Prop} {xs : List V} {l : List α} {i : Nat} {v : V} (h : Al R xs l) (e : xs[i]? = some v) : ∃ q, l[i]? = some q ∧ R v q := by
  have hi := (List.getElem?_eq_some_iff.mp e).1
  rw [h.1] at hi
  obtain ⟨u, a, b⟩ := h.2 i _ (List.getElem?_eq_getElem hi)
  rw [e] at a
  cases a
  exact ⟨_, List.getElem?_eq_getElem hi, b⟩
/-! ### rows, entries, tables on the heap -/
def RowV (K : PySem.W.Frag) (H : Hp) (v : V) (r : RowD) : Prop := ∃ a, v = .ref a ∧ RowAt K H a r
def EntV (K : PySem.W.Frag) (H : Hp) (v : V) : Option Ent → Prop
  | none => v = .non
  | some e => ∃ t q, v = .ref t ∧ SqT K H t [vi e.h, vi e.b, .ref q] ∧ SqT K H q [vi e.x4, vi e.x5, vi e.x6]
def lsV (ls : List (Nat × Nat)) : List (Key × V) := ls.map fun q => (Sum.inl (q.1 : Int), vi q.2)
def TabAt (K : PySem.W.Frag) (H : Hp) (t : Addr) (es : List (Option Ent)) (ls : List (Nat × Nat)) : Prop :=
  ∃ dx el d xs, H t = some (.ins (ga K "Table") dx [("entries", .ref el), ("landings", .ref d)]) ∧ H el = some (.lst xs) ∧ Al (EntV K H) xs es ∧ H d = some (.dK (lsV ls))
def CodeAt (K : PySem.W.Frag) (H : Hp) (c : Addr) (rs : List RowD) : Prop := ∃ xs, H c = some (.lst xs) ∧ Al (RowV K H) xs rs
/-- all but great instances stands (a machine is one) -/
def Kp (H H' : Hp) : Prop := ∀ b o, H b = some o → (∀ C dx fs, o = .ins C dx fs → fs.length ≤ 3) → H' b = some o
theorem Kp.rfl {H : Hp} : Kp H H := fun _ _ e _ => e
theorem Kp.trans {H H' H'' : Hp} (a : Kp H H') (b : Kp H' H'') : Kp H H'' := fun x o e n => b x o (a x o e n) n
theorem Same.kp {H H' : Hp} (e : Same H H') : Kp H H' := fun b o h _ => e b o h
theorem Same.trans {H H' H'' : Hp} (a : Same H H') (b : Same H' H'') : Same H H'' := fun x o e => b x o (a x o e)
theorem Same.rfl {H : Hp} : Same H H := fun _ _ e => e
theorem Kp.lst {H H' : Hp} {a : Addr} {xs : List V} (k : Kp H H') (h : H a = some (.lst xs)) : H' a = some (.lst xs) := k _ _ h fun _ _ _ e => by cases e
theorem Kp.tup {H H' : Hp} {a : Addr} {xs : List V} (k : Kp H H') (h : H a = some (.tup xs)) : H' a = some (.tup xs) := k _ _ h fun _ _ _ e => by cases e
theorem Kp.dK {H H' : Hp} {a : Addr} {xs : List (Key × V)} (k : Kp H H') (h : H a = some (.dK xs)) : H' a = some (.dK xs) := k _ _ h fun _ _ _ e => by cases e
theorem Kp.frz {H H' : Hp} {a : Addr} {o : Obj} {u : HO} (k : Kp H H') (h : H a = some (.frz o u)) : H' a = some (.frz o u) := k _ _ h fun _ _ _ e => by cases e
theorem Kp.seqT {K : PySem.W.Frag} {H H' : Hp} {a : Addr} {xs : List V} (k : Kp H H') (h : SqT K H a xs) : SqT K H' a xs := by
  rcases h with (h | ⟨o, h⟩) | h
  · exact .inl (.inl (k.tup h))
  · exact .inl (.inr ⟨o, k.frz h⟩)
  · exact .inr h
theorem Kp.row {K : PySem.W.Frag} {H H' : Hp} {a : Addr} {r : RowD} (k : Kp H H') (h : RowAt K H a r) : RowAt K H' a r := let ⟨dx, q⟩ := h; ⟨dx, k _ _ q fun C d fs e => by cases e; cases r <;> simp [fieldsN]⟩
theorem Kp.rowV {K : PySem.W.Frag} {H H' : Hp} {v : V} {r : RowD} (k : Kp H H') (h : RowV K H v r) : RowV K H' v r := let ⟨a, e, q⟩ := h; ⟨a, e, k.row q⟩
theorem Kp.ent {K : PySem.W.Frag} {H H' : Hp} {v : V} {e : Option Ent} (k : Kp H H') (h : EntV K H v e) : EntV K H' v e := by
  cases e with
  | none => exact h
  | some e =>
    obtain ⟨t, q, a, b, c⟩ := h
    exact ⟨t, q, a, k.seqT b, k.seqT c⟩
theorem Kp.code {K : PySem.W.Frag} {H H' : Hp} {c : Addr} {rs : List RowD} (k : Kp H H') (h : CodeAt K H c rs) : CodeAt K H' c rs := let ⟨xs, a, b⟩ := h; ⟨xs, k.lst a, b.imp fun _ _ => k.rowV⟩
theorem Kp.tab {K : PySem.W.Frag} {H H' : Hp} {t : Addr} {es : List (Option Ent)} {ls : List (Nat × Nat)} (k : Kp H H') (h : TabAt K H t es ls) : TabAt K H' t es ls :=
  let ⟨dx, el, d, xs, a, b, c, e⟩ := h
  ⟨dx, el, d, xs, k _ _ a fun C d fs z => by cases z; simp, k.lst b, c.imp fun _ _ => k.ent, k.dK e⟩
section
variable {P : Program} {w : World} {K : PySem.W.Frag} {mg : Str → Option Value} {base : Heap}
theorem Tx.start (T : Tx K mg) (H : Hp) : EntV K H (.ref (ga K "START")) (some START) := by
  have e : startB K = true := (bb (bb T.c.2).2).1
  unfold startB at e
  split at e
  · rename_i c d its sl1 n hl
    obtain ⟨e1, e⟩ := bb e
    obtain ⟨e2, e⟩ := bb e
    split at e
    · rename_i a t1 b t2 q hq
      obtain ⟨e3, e⟩ := bb e
      obtain ⟨e4, e⟩ := bb e
      split at e
      · rename_i c2 d2 its2 sl2 n2 hl2
        obtain ⟨e5, e⟩ := bb e
        obtain ⟨e6, e7⟩ := bb e
        have e1 := of_decide_eq_true e1
        have e2 := of_decide_eq_true e2
        have e3 := of_decide_eq_true e3
        have e4 := of_decide_eq_true e4
        have e5 := of_decide_eq_true e5
        have e6 := of_decide_eq_true e6
        subst e3 e4
        refine ⟨_, q, rfl, .inr ⟨_, _, _, hl, by rw [e1], rfl, e2, ?_⟩, .inr ⟨_, _, _, hl2, by rw [e5], rfl, e6, He.relAll_ok e7⟩⟩
        rw [hq]
        exact .cons ⟨_, rfl⟩ (.cons ⟨_, rfl⟩ (.cons rfl .nil))
      · cases e
    · cases e
  · cases e
/-! ### Table.__init__ -/
def spTable0 (K : PySem.W.Frag) : Sp := fun vs H Q _ => ∃ (x dx el d : Addr) (xs : List V) (kvs : List (Key × V)), vs = [.ref x, .ref el, .ref d] ∧ H x = some (.ins (ga K "Table") dx []) ∧ H el = some (.lst xs) ∧ H d = some (.dK kvs) ∧
  ∀ H' el' d', H' x = some (.ins (ga K "Table") dx [("entries", .ref el'), ("landings", .ref d')]) → But x H H' → H' el' = some (.lst xs) → H' d' = some (.dK kvs) → (H el' = none ∧ H d' = none ∧ el' ≠ d') → Q .non H'
theorem r_Table_init (T : Tx K mg) : FnR P w K mg base CX0 1 (ma K (ga K "Table") "__init__") (spTable0 K) := by
  refine FnR.imp (sp := fun vs H Q E => spTable0 K (vs ++ [V.non].drop 1) H Q E) (fnrD (dvs := [.non]) (N := N_Table_init) (ps := ["self", "entries", "landings"]) 3 1 (by simp) rfl T.F_Table_init sc_Table_init (fun vs H Q E h => ?_) (fun T kV doc pm an cdv ct us its h1 h2 => ?_) (fun cdv A outer s H vs Q E hr h => ?_)) (fun vs H Q E h => by simpa using h)
  · obtain ⟨x, dx, el, d, xs, kvs, rfl, _⟩ := h
    rfl
  · match us, its, h1, h2 with
    | [a, b, c], [i], _, _ => exact ⟨_, rfl, rfl⟩
  · obtain ⟨x, dx, el, d, xs, kvs, rfl, hx, he, hd, k⟩ := h
    refine ⟨_, PSs.nox (pss_cons (ps_fld (pv 0) (pe_callTy call_list_of rfl T.fr_list (by decide +kernel) (pa_cons (pv 1) pa_nil)) rfl)
      (pss_cons (ps_fld (pv 0) pe_dnewK rfl)
      (pss_one (ps_if (pt_cmpR op_notN (pv 2) pe_non (nomark _)) (pss_one (ps_fld (pv 0) (pe_callTy call_dictD rfl T.fr_dict (by decide +kernel) (pa_cons (pv 2) pa_nil)) rfl)) pss_nil)))), ?_⟩
    refine ⟨_, rfl, el, xs, rfl, .inl (sl he), fun l hl => ?_⟩
    have nx : x ≠ l := ne_of_none hx hl
    refine ⟨_, rfl, x, _, dx, _, rfl, Same.new hl _ _ hx, T.cl_Table, T.no_Table_entries, (by show 0 < 1000; decide), ?_⟩
    refine fun m hm => ?_
    have hm' : upd H l (.lst xs) m = none := by
      by_cases q : m = x
      · subst q
        rw [upd_same] at hm
        cases hm
      · rw [upd_ne q] at hm
        exact hm
    have nm : x ≠ m := by
      intro z
      subst z
      rw [upd_same] at hm
      cases hm
    refine ⟨_, rfl, x, _, dx, _, rfl, by rw [upd_ne nm, upd_same], T.cl_Table, T.no_Table_landings, (by show 1 < 1000; decide), ?_⟩
    refine ⟨_, rfl, rfl, _, rfl, iteT ?_⟩
    refine ⟨_, rfl, d, kvs, rfl, .inl ?_, fun p hp => ?_⟩
    · have n1 : d ≠ x := ne_of hd hx (by intro z; cases z)
      have n2 : d ≠ m := by
        intro z
        subst z
        have := Same.new (o := .lst xs) hl _ _ hd
        rw [this] at hm'
        cases hm'
      rw [upd_ne n1, upd_ne n2, upd_ne n1]
      exact Same.new hl _ _ hd
    · have np : x ≠ p := by
        intro z
        subst z
        rw [upd_same] at hp
        cases hp
      rw [upd_ne (Ne.symm np)] at hp
      refine ⟨_, rfl, x, _, dx, _, rfl, by rw [upd_ne np, upd_same], T.cl_Table, T.no_Table_landings, (by show 2 < 1000; decide), ?_⟩
      have pm : p ≠ m := by
        intro z
        subst z
        rw [upd_same] at hp
        cases hp
      rw [upd_ne pm, upd_ne (Ne.symm np)] at hp
      have pl : p ≠ l := by
        intro z
        subst z
        rw [upd_same] at hp
        cases hp
      have hp0 : H p = none := by rw [upd_ne pl] at hp; exact hp
      refine k _ l p upd_same (But.upd ?_) ?_ ?_ ⟨hl, hp0, Ne.symm pl⟩
      · intro b o e n
        have b1 : b ≠ l := ne_of_none e hl
        have b2 : b ≠ p := ne_of_none e hp0
        have b3 : b ≠ m := by
          intro z
          subst z
          rw [upd_ne b1, e] at hm'
          cases hm'
        rw [upd_ne b2, upd_ne n, upd_ne b3, upd_ne n, upd_ne b1]
        exact e
      · have lm : l ≠ m := by
          intro z
          subst z
          rw [upd_same] at hm'
          cases hm'
        rw [upd_ne (Ne.symm nx), upd_ne (Ne.symm pl), upd_ne (Ne.symm nx), upd_ne lm, upd_ne (Ne.symm nx), upd_same]
      · rw [upd_ne (Ne.symm np), upd_same]
end
end Fb

set_option Elab.async false
set_option linter.all false
set_option maxRecDepth 100000
set_option maxHeartbeats 4000000
namespace Fb
open PySem PySem.Spec PyProof.Rows L2
open He (ga ma)
/-! ### the reader -/
theorem low_and {s : Nat} (h : 0 < s) : Builtin.bitAnd (s : Int) (-(s : Int)) = ((s - (s &&& (s - 1)) : Nat) : Int) := by
  rw [bitAnd_pn (by omega) (by omega)]
  have e : (Builtin.bitNot (-(s : Int))).toNat = s - 1 := by
    unfold Builtin.bitNot
    omega
  rw [e, Int.toNat_natCast]
  have : (s &&& (s - 1)) ≤ s := Nat.and_le_left
  omega
theorem bits_pow (p : Nat) : Builtin.Int.intBits ((2 ^ p : Nat) : Int) = p + 1 := by
  unfold Builtin.Int.intBits
  have h : ((2 ^ p : Nat) : Int) ≠ 0 := by
    have := Nat.two_pow_pos p
    omega
  rw [if_neg (by simpa using h)]
  rw [Int.natAbs_natCast, Nat.log2_two_pow]
theorem pos_of_bit {s p : Nat} (h : s.testBit p = true) : 0 < s := by
  rcases Nat.eq_zero_or_pos s with e | e
  · subst e
    simp at h
  · exact e
def BoxAt (H : Hp) (a : Addr) (bx : Nat → Option Nat) : Prop := ∃ xs, H a = some (.lst xs) ∧ xs.length = 8 ∧ ∀ p v, p < 8 → bx p = some v → xs[p]? = some (vi v)
theorem Kp.box {H H' : Hp} {a : Addr} {bx : Nat → Option Nat} (k : Kp H H') (h : BoxAt H a bx) : BoxAt H' a bx := let ⟨xs, a, b⟩ := h; ⟨xs, k.lst a, b⟩
theorem box_of {H : Hp} {a : Addr} {bs : List Nat} (h : H a = some (.lst (ns bs))) (hl : bs.length = 8) : BoxAt H a (bxOf bs) := ⟨_, h, by simpa using hl, fun p v _ e => ns_get e⟩
section
variable {P : Program} {w : World} {K : PySem.W.Frag} {mg : Str → Option Value} {base : Heap}
def spLying (K : PySem.W.Frag) : Sp := fun vs H Q _ => ∃ (s : Nat) (vr y z : V) (t bl pl : Addr) (h n v : Nat) (bx : Nat → Option Nat) (W : List Nat), vs = [vi s, vr, .ref t, .ref bl, .ref pl, vi n] ∧ SqT K H t [vi h, y, z] ∧ h ≤ n ∧ BoxAt H bl bx ∧ H pl = some (.lst (ns W)) ∧
  LowVal bx W n h s v ∧ Q (vi v) H
theorem r_lying (T : Tx K mg) : FnR P w K mg base CX0 1 (ga K "lying") (spLying K) := by
  refine fnr0 T.F_lying sc_lying (fun vs H Q E h => ?_) hb_lying (fun cdv A outer s H vs Q E hr h => ?_)
  · obtain ⟨s, vr, y, z, t, bl, pl, h, n, v, bx, W, rfl, _⟩ := h
    rfl
  · obtain ⟨s, vr, y, z, t, bl, pl, h, n, v, bx, W, rfl, ht, hh, ⟨xs, hx, hxl, hxv⟩, hp, ⟨p, hp1, hp2, hp3⟩, k⟩ := h
    have hs := pos_of_bit hp1
    refine ⟨_, pss_cons (ps_if (pt_cmpR op_lt (pv 0) pe_int (nomark _)) pss_never pss_nil)
      (pss_cons (ps_set (i := 6) sc_lying.nd rfl (.inl rfl) (pe_op op_sub (pe_bits (pe_op op_and (pv 0) (pe_un un_neg (pv 0)))) pe_int))
      (pss_cons (ps_if (pt_cmpR op_lt (pv 6) (pe_gi rfl T.ig_BOXES_tables) (nomark _)) (pss_cons (ps_if (pt_cmpR op_isN (pe_ix ix_list (pv 3) (pv 6) (fun _ _ => rfl)) pe_non (nomark _)) pss_never pss_nil) (pss_one (ps_ret (pe_ix ix_list (pv 3) (pv 6) (fun _ _ => rfl))))) pss_nil)
      (pss_cons (ps_if (pt_cmpR op_ge (pe_op op_sub (pv 6) (pe_gi rfl T.ig_BOXES_tables)) (pe_ix ix_tup (pv 2) pe_int (fun _ _ => rfl)) (nomark _)) pss_never pss_nil)
      (pss_one (ps_ret (pe_ix ix_list (pv 4) (pe_op op_sub (pe_op op_add (pe_op op_sub (pv 5) (pe_ix ix_tup (pv 2) pe_int (fun _ _ => rfl))) (pv 6)) (pe_gi rfl T.ig_BOXES_tables)) (fun _ _ => rfl))))))), ?_⟩
    refine ⟨_, rfl, _, _, rfl, rfl, _, rfl, ?_⟩
    rw [decide_eq_false (show ¬ (s : Int) < 1 by omega)]
    refine iteF ?_
    refine ⟨_, rfl, _, rfl, _, rfl, _, _, rfl, rfl, _, rfl, _, _, rfl, rfl, ?_⟩
    have e1 : ((Builtin.Int.intBits (Builtin.bitAnd (s : Int) (-(s : Int))) : Nat) : Int) = (p : Int) + 1 := by
      rw [low_and hs, hp2, bits_pow]
      omega
    rw [e1]
    refine ⟨_, rfl, _, _, rfl, rfl, _, rfl, ?_⟩
    by_cases hlt : p < 8
    · rw [if_pos hlt] at hp3
      have hv := hxv p v hlt hp3
      rw [decide_eq_true (show (p : Int) + 1 - 1 < 8 by omega)]
      refine iteT ⟨_, rfl, _, rfl, bl, xs, _, vi v, rfl, rfl, sl hx, at_nat (by omega) hv, rfl, _, rfl, iteF ⟨_, rfl, _, rfl, bl, xs, _, vi v, rfl, rfl, sl hx, at_nat (by omega) hv, k⟩⟩
    · rw [if_neg hlt] at hp3
      obtain ⟨z1, z2⟩ := hp3
      rw [decide_eq_false (show ¬ (p : Int) + 1 - 1 < 8 by omega)]
      refine iteF ?_
      refine ⟨_, rfl, _, _, rfl, rfl, _, rfl, t, _, _, vi h, rfl, rfl, ht, rfl, _, _, rfl, rfl, _, rfl, ?_⟩
      rw [decide_eq_false (show ¬ (h : Int) ≤ (p : Int) + 1 - 1 - 8 by omega)]
      refine iteF ?_
      refine ⟨_, rfl, _, rfl, _, rfl, t, _, _, vi h, rfl, rfl, ht, rfl, _, _, rfl, rfl, _, rfl, _, _, rfl, rfl, _, _, rfl, rfl, pl, _, _, _, rfl, rfl, sl hp, ?_, k⟩
      exact at_nat (j := n - h + (p - 8)) (by omega) (ns_get z2)
def ToldV (H : Hp) (v : V) (q : Nat × K3 × Nat) : Prop := ∃ t kt, v = .ref t ∧ H t = some (.tup [vi q.1, .ref kt, vi q.2.2]) ∧ H kt = some (.tup [vi q.2.1.1, vi q.2.1.2.1, vi q.2.1.2.2])
theorem Kp.told {H H' : Hp} {v : V} {q : Nat × K3 × Nat} (k : Kp H H') (h : ToldV H v q) : ToldV H' v q := let ⟨t, kt, a, b, c⟩ := h; ⟨t, kt, a, k.tup b, k.tup c⟩
def spOneUp (K : PySem.W.Frag) : Sp := fun vs H Q _ => ∃ (tb bl pl : Addr) (row n r k4 k5 k6 : Nat) (e : Ent) (es : List (Option Ent)) (ls : List (Nat × Nat)) (bx : Nat → Option Nat) (W : List Nat), vs = [.ref tb, vi row, .ref bl, .ref pl, vi n] ∧ TabAt K H tb es ls ∧
  es[row]? = some (some e) ∧ e.h ≤ n ∧ BoxAt H bl bx ∧ H pl = some (.lst (ns W)) ∧ LowVal bx W n e.h e.b r ∧ LowVal bx W n e.h e.x4 k4 ∧ LowVal bx W n e.h e.x5 k5 ∧ LowVal bx W n e.h e.x6 k6 ∧
  ∀ H' v, Same H H' → ToldV H' v (r, (k4, k5, k6), n - e.h) → Q v H'
theorem r_one_up (T : Tx K mg) : FnR P w K mg base CX0 2 (ga K "one_up") (spOneUp K) := by
  refine fnr0 T.F_one_up sc_one_up (fun vs H Q E h => ?_) hb_one_up (fun cdv A outer s H vs Q E hr h => ?_)
  · obtain ⟨tb, bl, pl, row, n, r, k4, k5, k6, e, es, ls, bx, W, rfl, _⟩ := h
    rfl
  · obtain ⟨tb, bl, pl, row, n, r, k4, k5, k6, e, es, ls, bx, W, rfl, ⟨dx, el, d, xs, htb, hel, hal, hd⟩, hrow, hh, hbx, hp, l1, l2, l3, l4, k⟩ := h
    obtain ⟨ve, hve, t, q, rfl, ht, hq⟩ := hal.2 _ _ hrow
    have hlt : row < xs.length := (List.getElem?_eq_some_iff.mp hve).1
    refine ⟨_, pss_cons (ps_if (PW.pt (pw_or (pt_cmpR op_lt (pv 1) pe_int (nomark _)) (pw_or1 (pt_cmpR op_ge (pv 1) (pe_callB call_len_seq rfl T.fr_len (by decide +kernel) (pa_cons (pe_fld (pv 0) rfl) pa_nil)) (nomark _))))) pss_never pss_nil)
      (pss_cons (ps_set (i := 5) sc_one_up.nd rfl (.inr rfl) (pe_ix ix_list (pe_fld (pv 0) rfl) (pv 1) (fun _ _ => rfl)))
      (pss_cons (ps_if (PW.pt (pw_or (pt_cmpR op_isN (pv 5) pe_non (nomark _)) (pw_or (pt_cmpR op_lt (pe_ix ix_tup (pv 5) pe_int (fun _ _ => rfl)) pe_int (nomark _)) (pw_or1 (pt_cmpR op_gt (pe_ix ix_tup (pv 5) pe_int (fun _ _ => rfl)) (pv 4) (nomark _)))))) pss_never pss_nil)
      (pss_cons (ps_set (i := 6) sc_one_up.nd rfl (.inl rfl) (pe_f (r_lying T) hr rfl T.gl_lying T.kp_lying pass0 (pa_cons (pe_ix ix_tup (pv 5) pe_int (fun _ _ => rfl)) (pa_cons (pv 1) (pa_cons (pv 5) (pa_cons (pv 2) (pa_cons (pv 3) (pa_cons (pv 4) pa_nil))))))))
      (pss_cons (ps_setLc (i := 7) (own := [("places", 8)]) (g := gName 8) (tt := tYes) rfl sc_one_up.nd rfl rfl (sw_true rfl rfl rfl (by decide +kernel)) (pi_tup (pe_ix ix_tup (pv 5) pe_int (fun _ _ => rfl))) (blkOk_by (N := N_one_up) (sc := defScope s_one_up) (by decide +kernel)) (fun _ _ _ _ _ => pg_name (i := 8) sc_one_up.nd rfl (.inl rfl)) (fun _ _ _ _ _ => pts_nil)
          (fun _ _ _ _ _ => pe_f (r_lying T) hr rfl T.gl_lying T.kp_lying pass0 (pa_cons (pv 8) (pa_cons (pv 1) (pa_cons (pv 5) (pa_cons (pv 2) (pa_cons (pv 3) (pa_cons (pv 4) pa_nil))))))))
      (pss_one (ps_ret (pe_tup (pa_cons (pv 6) (pa_cons (pe_tup (pa_cons (pe_ix ix_list (pv 7) pe_int (fun _ _ => rfl)) (pa_cons (pe_ix ix_list (pv 7) pe_int (fun _ _ => rfl)) (pa_cons (pe_ix ix_list (pv 7) pe_int (fun _ _ => rfl)) pa_nil)))) (pa_cons (pe_op op_sub (pv 4) (pe_ix ix_tup (pv 5) pe_int (fun _ _ => rfl))) pa_nil)))))))))), ?_⟩
    refine ⟨_, rfl, _, _, rfl, rfl, _, rfl, ?_⟩
    rw [decide_eq_false (show ¬ (row : Int) < 0 by omega)]
    refine iteF ⟨_, rfl, _, rfl, tb, _, dx, _, _, rfl, htb, T.cl_Table, T.no_Table_entries, rfl, el, xs, rfl, .inl (sl hel), _, _, rfl, rfl, _, rfl, ?_⟩
    rw [decide_eq_false (show ¬ (xs.length : Int) ≤ (row : Int) by omega)]
    refine iteF ⟨_, rfl, tb, _, dx, _, _, rfl, htb, T.cl_Table, T.no_Table_entries, rfl, _, rfl, el, xs, _, _, rfl, rfl, sl hel, at_nat rfl hve, ?_⟩
    refine ⟨_, rfl, rfl, _, rfl, iteF ⟨_, rfl, t, _, _, vi e.h, rfl, rfl, ht, rfl, _, _, rfl, rfl, _, rfl, ?_⟩⟩
    rw [decide_eq_false (show ¬ (e.h : Int) < 0 by omega)]
    refine iteF ⟨_, rfl, t, _, _, vi e.h, rfl, rfl, ht, rfl, _, rfl, _, _, rfl, rfl, _, rfl, ?_⟩
    rw [decide_eq_false (show ¬ (n : Int) < (e.h : Int) by omega)]
    refine iteF ⟨_, rfl, t, _, _, vi e.b, rfl, rfl, ht, rfl, _, rfl, _, rfl, _, rfl, _, rfl, _, rfl, e.b, _, _, _, t, bl, pl, e.h, n, r, bx, W, rfl, ht, hh, hbx, hp, l1, ?_⟩
    refine ⟨_, rfl, t, _, _, _, rfl, rfl, ht, rfl, q, rfl, ⟨_, hq⟩, fun D hD => ?_⟩
    refine lc_tup (K := K) (a := q) (xs := [vi e.x4, vi e.x5, vi e.x6]) (fun i H' => Same H H' ∧ H' D = some (.lst (ns ([k4, k5, k6].take i)))) ⟨Same.new hD, upd_same⟩ (fun i H' _ ⟨s, _⟩ => (Same.kp s).seqT hq) (fun i x H' hx ⟨sm, hDl⟩ => ?_) (fun H' ⟨sm, hDl⟩ => ?_)
    · have fin : ∀ (sx kx : Nat) (H2 : Hp), x = vi sx → LowVal bx W n e.h sx kx → ns ([k4, k5, k6].take i) ++ [vi kx] = ns ([k4, k5, k6].take (i + 1)) → ∃ (s : Nat) (vr y z : V) (t' bl' pl' : Addr) (h n' v : Nat) (bx' : Nat → Option Nat) (W' : List Nat), [x, vi row, .ref t, .ref bl, .ref pl, vi n] = [vi s, vr, .ref t', .ref bl', .ref pl', vi n'] ∧ SqT K H' t' [vi h, y, z] ∧ h ≤ n' ∧ BoxAt H' bl' bx' ∧ H' pl' = some (.lst (ns W')) ∧
          LowVal bx' W' n' h s v ∧ ∃ acc, H' D = some (.lst acc) ∧ acc.length < sizeLine ∧ Same H (upd H' D (.lst (acc ++ [vi v]))) ∧ upd H' D (.lst (acc ++ [vi v])) D = some (.lst (ns ([k4, k5, k6].take (i + 1)))) := fun sx kx H2 ex lx et => by
        subst ex
        refine ⟨sx, _, _, _, t, bl, pl, e.h, n, kx, bx, W, rfl, (Same.kp sm).seqT ht, hh, (Same.kp sm).box hbx, sm _ _ hp, lx, _, hDl, ?_, Same.mut sm hD, ?_⟩
        · have : (ns ([k4, k5, k6].take i)).length ≤ 3 := by simp; omega
          rw [sizeLine_eq]
          omega
        · rw [upd_same, et]
      have go : _ := fun (sx kx : Nat) (ex : x = vi sx) (lx : LowVal bx W n e.h sx kx) (et : ns ([k4, k5, k6].take i) ++ [vi kx] = ns ([k4, k5, k6].take (i + 1))) => fin sx kx H' ex lx et
      match i, hx with
      | 0, hx =>
        cases hx
        exact ⟨rfl, _, rfl, _, rfl, _, rfl, _, rfl, _, rfl, _, rfl, go e.x4 k4 rfl l2 rfl⟩
      | 1, hx =>
        cases hx
        exact ⟨rfl, _, rfl, _, rfl, _, rfl, _, rfl, _, rfl, _, rfl, go e.x5 k5 rfl l3 rfl⟩
      | 2, hx =>
        cases hx
        exact ⟨rfl, _, rfl, _, rfl, _, rfl, _, rfl, _, rfl, _, rfl, go e.x6 k6 rfl l4 rfl⟩
      | i + 3, hx => simp at hx
    · have hD3 : H' D = some (.lst (ns [k4, k5, k6])) := hDl
      refine ⟨_, rfl, _, rfl, D, _, _, vi k4, rfl, rfl, sl hD3, rfl, _, rfl, D, _, _, vi k5, rfl, rfl, sl hD3, rfl, _, rfl, D, _, _, vi k6, rfl, rfl, sl hD3, rfl, (by show 3 ≤ sizeLine; decide), fun y hy => ?_⟩
      have s2 := Same.new (o := .tup [vi k4, vi k5, vi k6]) hy
      refine ⟨_, rfl, _, rfl, t, _, _, vi e.h, rfl, rfl, (Same.kp s2).seqT ((Same.kp sm).seqT ht), rfl, _, _, rfl, rfl, (by show 3 ≤ sizeLine; decide), fun z hz => ?_⟩
      have s3 := Same.new (o := .tup [vi r, .ref y, .int ((n : Int) - (e.h : Int))]) hz
      refine k _ _ (fun a o e => s3 _ _ (s2 _ _ (sm _ _ e))) ⟨z, y, rfl, ?_, s3 _ _ upd_same⟩
      rw [upd_same]
      show some (HO.tup [vi r, .ref y, V.int ((n : Int) - (e.h : Int))]) = _
      rw [show V.int ((n : Int) - (e.h : Int)) = vi (n - e.h) from congrArg V.int (by omega)]
def spCallers (K : PySem.W.Frag) : Sp := fun vs H Q _ => ∃ (tb bl pl : Addr) (row : Nat) (es : List (Option Ent)) (ls : List (Nat × Nat)) (bx : Nat → Option Nat) (W : List Nat) (l : List (Nat × K3 × Nat)), vs = [.ref tb, vi row, .ref bl, .ref pl] ∧ TabAt K H tb es ls ∧ BoxAt H bl bx ∧ H pl = some (.lst (ns W)) ∧
  ReadsN es W row bx W.length l ∧ l.length < 5000 ∧ ∀ H' p xs, Same H H' → H' p = some (.lst xs) → Al (ToldV H') xs l → Q (.ref p) H'
def CallersW (K : PySem.W.Frag) (es : List (Option Ent)) (W : List Nat) (l : List (Nat × K3 × Nat)) (tb pl fo : Addr) (H : Hp) : Nat → L2.St → Hp → Prop := fun m σ H' => ∃ (row n : Nat) (bx : Nat → Option Nat) (bl : Addr) (acc rest : List (Nat × K3 × Nat)) (xs : List V) (kk : Option V), rest.length = m ∧
  σ = [some (.ref tb), some (vi row), some (.ref bl), some (.ref pl), some (.ref fo), some (vi n), kk] ∧ ReadsN es W row bx n rest ∧ BoxAt H' bl bx ∧ H' fo = some (.lst xs) ∧ Al (ToldV H') xs acc ∧ acc ++ rest = l ∧ Same H H'
theorem lt_size {n : Nat} (h : n ≤ 100000) : n < sizeLine := by
  rw [sizeLine_eq]
  omega
theorem r_callers (T : Tx K mg) : FnR P w K mg base CX0 3 (ga K "callers") (spCallers K) := by
  refine fnr0 T.F_callers sc_callers (fun vs H Q E h => ?_) hb_callers (fun cdv A outer s H vs Q E hr h => ?_)
  · obtain ⟨tb, bl, pl, row, es, ls, bx, W, l, rfl, _⟩ := h
    rfl
  · obtain ⟨tb, bl, pl, row, es, ls, bx, W, l, rfl, ht, hbx, hp, hR, hl, k⟩ := h
    refine ⟨_, pss_cons (ps_set (i := 4) sc_callers.nd rfl (.inl rfl) (pe_lst pa_nil))
      (pss_cons (ps_set (i := 5) sc_callers.nd rfl (.inl rfl) (pe_callB call_len_seq rfl T.fr_len (by decide +kernel) (pa_cons (pv 3) pa_nil)))
      (pss_cons (ps_while PassesOwn.never (pt_cmpR op_ne (pv 1) (pe_callB call_len_seq rfl T.fr_len (by decide +kernel) (pa_cons (pe_fld (pv 0) rfl) pa_nil)) (nomark _))
        (pss_cons (ps_if (pt_cmpR op_eq (pe_callB call_len_seq rfl T.fr_len (by decide +kernel) (pa_cons (pv 4) pa_nil)) (pe_gi rfl T.ig_MOST) (nomark _)) pss_never pss_nil)
        (pss_cons (ps_asg (pe_f (r_one_up T) hr rfl T.gl_one_up T.kp_one_up pass0 (pa_cons (pv 0) (pa_cons (pv 1) (pa_cons (pv 2) (pa_cons (pv 3) (pa_cons (pv 5) pa_nil))))))
            (pg_tup rfl (pgs_cons (pg_name (i := 1) sc_callers.nd rfl (.inl rfl)) (pgs_cons (pg_name (i := 6) sc_callers.nd rfl (.inl rfl)) (pgs_cons (pg_name (i := 5) sc_callers.nd rfl (.inl rfl)) pgs_nil)))))
        (pss_cons (ps_expr (pe_bm PySem.F.plainAttrs_list PySem.F.slot_list_append PySem.F.type_list_append mt_append (pv 4) (pa_cons (pe_tup (pa_cons (pv 1) (pa_cons (pv 6) (pa_cons (pv 5) pa_nil)))) pa_nil)))
        (pss_one (ps_set (i := 2) sc_callers.nd rfl (.inl rfl) (pe_lst (pa_cons pe_non (pa_cons pe_non (pa_cons pe_non (pa_cons pe_non (pa_cons (pe_ix ix_tup (pv 6) pe_int (fun _ _ => rfl)) (pa_cons (pe_ix ix_tup (pv 6) pe_int (fun _ _ => rfl)) (pa_cons (pe_ix ix_tup (pv 6) pe_int (fun _ _ => rfl)) (pa_cons pe_non pa_nil)))))))))))))))
      (pss_one (ps_ret (pv 4))))), ?_⟩
    refine ⟨(by show 0 ≤ sizeLine; decide), fun fo hfo => ?_⟩
    have s0 := Same.new (o := .lst []) hfo
    refine ⟨_, rfl, pl, _, rfl, .inl (sl (s0 _ _ hp)), ?_⟩
    have e0 : (ns W).length = W.length := List.length_map ..
    refine ⟨CallersW K es W l tb pl fo H, ⟨l.length, row, W.length, bx, bl, [], l, [], none, rfl, ?_, hR, (Same.kp s0).box hbx, upd_same, .nil, rfl, s0⟩, ?_⟩
    · show [some (V.ref tb), some (vi row), some (V.ref bl), some (V.ref pl), some (V.ref fo), some (V.int ((ns W).length : Int)), none] = _
      rw [e0]
      rfl
    · rintro m σ H' ⟨row, n, bx, bl, acc, rest, xs, kk, rfl, rfl, hR, hbx, hfo', hal, hacc, sm⟩
      have ht' := (Same.kp sm).tab ht
      obtain ⟨dx, el, d, ys, htb, hel, halE, hd⟩ := ht'
      refine ⟨_, rfl, _, rfl, tb, _, dx, _, _, rfl, htb, T.cl_Table, T.no_Table_entries, rfl, el, ys, rfl, .inl (sl hel), rfl, _, rfl, ?_⟩
      have elen : decide (vi row = V.int (ys.length : Int)) = decide (row = es.length) := decide_eq_decide.mpr ⟨fun e => by have := V.int.inj e; have := halE.1; omega, fun e => by rw [e, ← halE.1]; rfl⟩
      rw [elen]
      cases hR with
      | home =>
        rw [decide_eq_true rfl]
        refine iteF ⟨_, rfl, k _ _ xs sm hfo' ?_⟩
        rw [← hacc, List.append_nil]
        exact hal
      | @more _ _ _ e r k4 k5 k6 lr hne he hle hpos l1 l2 l3 l4 hrest =>
        rw [decide_eq_false hne]
        refine iteT ⟨fun σ' H' => ∃ m', m' < lr.length + 1 ∧ CallersW K es W l tb pl fo H m' σ' H', fun σ' H' h => h, ?_⟩
        have halen := hal.1
        have hall : acc.length + (lr.length + 1) = l.length := by rw [← hacc]; simp
        refine ⟨_, rfl, fo, xs, rfl, .inl (sl hfo'), rfl, _, rfl, ?_⟩
        rw [decide_eq_false (show ¬ V.int (xs.length : Int) = V.int 5000 from fun z => by have := V.int.inj z; omega)]
        refine iteF ?_
        refine ⟨_, rfl, _, rfl, _, rfl, _, rfl, _, rfl, tb, bl, pl, row, n, r, k4, k5, k6, e, es, ls, bx, W, rfl, ⟨dx, el, d, ys, htb, hel, halE, hd⟩, he, hle, hbx, sm _ _ hp, l1, l2, l3, l4, fun H1 v s1 hv => ?_⟩
        obtain ⟨t, kt, rfl, htt, hkt⟩ := hv
        refine ⟨t, _, rfl, SqT.of htt, rfl, _, _, rfl, _, _, rfl, _, _, rfl, rfl, ?_⟩
        refine ⟨_, rfl, .inl ⟨rfl, _, SqL.of (s1 _ _ hfo')⟩, _, rfl, _, rfl, _, rfl, (by show 3 ≤ sizeLine; decide), fun y hy => ?_⟩
        have s2 := Same.new (o := .tup [vi r, .ref kt, vi (n - e.h)]) hy
        refine ⟨fo, _, _, rfl, rfl, s2 _ _ (s1 _ _ hfo'), lt_size (by omega), ?_⟩
        have hkt2 : upd (upd H1 y (.tup [vi r, .ref kt, vi (n - e.h)])) fo (.lst (xs ++ [.ref y])) kt = some (.tup [vi k4, vi k5, vi k6]) := by
          rw [upd_ne (ne_of (s2 _ _ hkt) (s2 _ _ (s1 _ _ hfo')) (by intro z; cases z))]
          exact s2 _ _ hkt
        refine ⟨_, rfl, kt, _, _, vi k4, rfl, rfl, SqT.of hkt2, rfl, _, rfl, kt, _, _, vi k5, rfl, rfl, SqT.of hkt2, rfl, _, rfl, kt, _, _, vi k6, rfl, rfl, SqT.of hkt2, rfl, (by show 8 ≤ sizeLine; decide), fun b hb => ?_⟩
        have s3 : Same H (upd (upd H1 y (.tup [vi r, .ref kt, vi (n - e.h)])) fo (.lst (xs ++ [.ref y]))) := Same.mut (Same.trans sm (Same.trans s1 s2)) hfo
        have s4 := Same.new (o := .lst [.non, .non, .non, .non, vi k4, vi k5, vi k6, .non]) hb
        have kp : ∀ u q, ToldV H' u q → ToldV (upd (upd H1 y (.tup [vi r, .ref kt, vi (n - e.h)])) fo (.lst (xs ++ [.ref y]))) u q := fun u q ⟨a, b, e1, e2, e3⟩ => ⟨a, b, e1, by
          rw [upd_ne (ne_of e2 hfo' (by intro z; cases z))]
          exact s2 _ _ (s1 _ _ e2), by
          rw [upd_ne (ne_of e3 hfo' (by intro z; cases z))]
          exact s2 _ _ (s1 _ _ e3)⟩
        refine ⟨lr.length, Nat.lt_succ_self _, r, n - e.h, bxKept (k4, k5, k6), b, acc ++ [(r, (k4, k5, k6), n - e.h)], lr, xs ++ [.ref y], _, rfl, rfl, hrest, ⟨_, upd_same, rfl, fun p v hp8 hv => ?_⟩, s4 _ _ upd_same, ?_, by rw [← hacc]; simp, Same.trans s3 s4⟩
        · unfold bxKept at hv
          by_cases c4 : p = 4
          · subst c4
            cases hv
            rfl
          · rw [if_neg c4] at hv
            by_cases c5 : p = 5
            · subst c5
              cases hv
              rfl
            · rw [if_neg c5] at hv
              by_cases c6 : p = 6
              · subst c6
                cases hv
                rfl
              · rw [if_neg c6] at hv
                cases hv
        · refine (Al.push (hal.imp kp) ?_).imp fun u q h => (Same.kp s4).told h
          refine ⟨y, kt, rfl, ?_, hkt2⟩
          rw [upd_ne (ne_of upd_same (s2 _ _ (s1 _ _ hfo')) (by intro z; cases z)), upd_same]
end
end Fb

set_option Elab.async false
set_option linter.all false
set_option maxRecDepth 100000
set_option maxHeartbeats 4000000
set_option exponentiation.threshold 5000
namespace Fb
open PySem PySem.Spec PyProof.Rows L2
open He (ga ma)
/-! ### the checker -/
theorem Same.back {H H' : Hp} {p : Addr} (e : Same H H') (h : H' p = none) : H p = none := by
  cases q : H p with
  | none => rfl
  | some o =>
    rw [e _ _ q] at h
    cases h
theorem ixT {X : Cx} {K : PySem.W.Frag} (e : X.K = K) : IxR X (rIxT K) := e ▸ ix_tup
theorem ixL {X : Cx} {K : PySem.W.Frag} (e : X.K = K) : IxR X (rIxL K) := e ▸ ix_list
/-- a comprehension over zip of two tuples -/
theorem lc_zipT {K : PySem.W.Frag} {a b : Addr} {xs ys : List V} {g : TG} {tt : TT} {te : TE} {vs : List Nat} {σ : L2.St} {H1 : Hp} {D : Addr} {Qd : Hp → Prop} (hlen : xs.length = ys.length) (Pv : Nat → Hp → Prop) (h0 : Pv 0 (upd H1 D (.lst []))) (hl : ∀ i H, Pv i H → SqT K H a xs ∧ SqT K H b ys)
    (hs : ∀ (i : Nat) (x y : V) (T : Addr) (H : Hp), xs[i]? = some x → ys[i]? = some y → Pv i H → H T = none → g (.ref T) (wipe σ vs) (upd H T (.tup [x, y])) fun σ2 H2 => wipe σ2 vs = wipe σ vs ∧ tt σ2 H2 fun b H3 =>
      if b = true then te σ2 H3 fun y H4 => ∃ acc, H4 D = some (.lst acc) ∧ acc.length < sizeLine ∧ Pv (i + 1) (upd H4 D (.lst (acc ++ [y]))) else Pv (i + 1) H3) (hd : ∀ H, Pv xs.length H → Qd H) :
    ∃ W : Nat → Nat → Hp → Prop, (∃ m, W 0 m (upd H1 D (.lst []))) ∧ ∀ i m H, W i m H →
      ((RZ.ItzT K a b).stop i H ∧ Qd H) ∨ ((RZ.ItzT K a b).go i H ∧ ∃ Nx : Hp → Prop, (∀ H', Nx H' → ∃ m', m' < m ∧ W (i + 1) m' H') ∧ ∀ x H', (RZ.ItzT K a b).yld i H x H' → g x (wipe σ vs) H' fun σ2 H2 => wipe σ2 vs = wipe σ vs ∧ tt σ2 H2 fun b H3 =>
        if b = true then te σ2 H3 fun y H4 => ∃ acc, H4 D = some (.lst acc) ∧ acc.length < sizeLine ∧ Nx (upd H4 D (.lst (acc ++ [y]))) else Nx H3) := by
  refine ⟨fun i m H => m = xs.length - i ∧ i ≤ xs.length ∧ Pv i H, ⟨xs.length, by simp, Nat.zero_le _, h0⟩, ?_⟩
  rintro i m H ⟨rfl, hi, p⟩
  obtain ⟨qx, qy⟩ := hl i H p
  by_cases hlt : i < xs.length
  · have hx : xs[i]? = some xs[i] := List.getElem?_eq_getElem hlt
    have hlt2 : i < ys.length := by omega
    have hy : ys[i]? = some ys[i] := List.getElem?_eq_getElem hlt2
    refine .inr ⟨⟨xs, ys, _, _, qx, qy, hx, hy⟩, Pv (i + 1), fun H' p' => ⟨xs.length - (i + 1), by omega, rfl, hlt, p'⟩, fun v H' y => ?_⟩
    obtain ⟨T, x', y', rfl, hT, rfl, f1, f2⟩ := y
    exact hs i x' y' T H (f1 xs qx) (f2 ys qy) p hT
  · have e : i = xs.length := by omega
    subst e
    exact .inl ⟨⟨xs, ys, qx, qy, Or.inl (Nat.le_refl _)⟩, hd H p⟩
theorem bits_le_iff (s n : Nat) (h : 0 < s) : Builtin.Int.intBits (s : Int) ≤ n ↔ s < 2 ^ n := by
  unfold Builtin.Int.intBits
  rw [if_neg (by simp; omega), Int.natAbs_natCast]
  exact Nat.log2_lt (by omega)
theorem isSet_big {s h : Nat} (q : IsSet s h) (l : h ≤ 4000) : s < Big := Nat.lt_of_lt_of_le q.2 (Nat.pow_le_pow_right (by decide) (by omega))
/-- a test's answer -/
theorem andNot_nn (a b : Nat) : Builtin.bitAnd (a : Int) (Builtin.bitNot (b : Int)) = ((a - (a &&& b) : Nat) : Int) := by
  rw [bitAnd_not, and_nn]
  have : (a &&& b) ≤ a := Nat.and_le_left
  omega
theorem sub_iff (a b : Nat) : a - (a &&& b) = 0 ↔ Sub a b := by
  have : (a &&& b) ≤ a := Nat.and_le_left
  unfold Sub
  omega
theorem and_two_pow_ne (s b : Nat) : (s &&& 2 ^ b) ≠ 0 ↔ s.testBit b = true := by
  constructor
  · intro h
    cases q : s.testBit b with
    | true => rfl
    | false =>
      refine absurd (Nat.eq_of_testBit_eq fun i => ?_) h
      rw [Nat.testBit_and, Nat.testBit_two_pow, Nat.zero_testBit]
      by_cases e : b = i
      · subst e
        simp [q]
      · simp [e]
  · intro h e
    have z : (s &&& 2 ^ b).testBit b = true := by rw [Nat.testBit_and, Nat.testBit_two_pow_self, h]; rfl
    rw [e] at z
    simp at z
section
variable {P : Program} {w : World} {K : PySem.W.Frag} {mg : Str → Option Value} {base : Heap}
def spIsSet : Sp := fun vs H Q _ => ∃ s h : Nat, vs = [vi s, vi h] ∧ ∀ b : Bool, (b = true ↔ IsSet s h) → Q (.bl b) H
theorem r_is_set (T : Tx K mg) : FnR P w K mg base CX0 1 (ga K "is_set") spIsSet := by
  refine fnr0 T.F_is_set sc_is_set (fun vs H Q E h => ?_) hb_is_set (fun cdv A outer s H vs Q E hr h => ?_)
  · obtain ⟨s, h, rfl, _⟩ := h
    rfl
  · obtain ⟨s, h, rfl, k⟩ := h
    refine ⟨_, pss_one (ps_ret (pe_and (pe_cmpR op_gt (pv 0) pe_int (nomark _)) (pe_one (pe_cmpR op_le (pe_bits (pv 0)) (pe_op op_add (pe_gi rfl T.ig_BOXES_tables) (pv 1)) (nomark _))))), ?_⟩
    refine ⟨_, rfl, _, _, rfl, rfl, _, rfl, ?_⟩
    by_cases c : 0 < s
    · rw [decide_eq_true (show (0 : Int) < (s : Int) by omega)]
      refine iteT ⟨_, rfl, _, rfl, _, rfl, _, _, rfl, rfl, _, _, rfl, rfl, k _ ?_⟩
      rw [decide_eq_true_eq]
      have e := bits_le_iff s (8 + h) c
      constructor
      · intro z
        exact ⟨c, e.mp (by omega)⟩
      · intro z
        have := e.mpr z.2
        omega
    · rw [decide_eq_false (show ¬ (0 : Int) < (s : Int) by omega)]
      exact iteF (k _ ⟨fun z => (by cases z), fun z => absurd z.1 c⟩)
def setsOf (e : Ent) : List Nat := [e.b, e.x4, e.x5, e.x6]
def spIsEntry (K : PySem.W.Frag) : Sp := fun vs H Q _ => ∃ (v : V) (e : Ent), vs = [v] ∧ EntV K H v (some e) ∧ ∀ (b : Bool) H', Same H H' → (b = true ↔ IsEntry e) → Q (.bl b) H'
theorem all_ok {bs : List Bool} {e : Ent} (h : ∀ (j s : Nat), (setsOf e)[j]? = some s → ∃ b : Bool, bs[j]? = some b ∧ (b = true ↔ IsSet s e.h)) (hl : bs.length = 4) (hh : e.h ≤ 4000) : bs.all id = true ↔ IsEntry e := by
  match bs, hl with
  | [b0, b1, b2, b3], _ =>
    obtain ⟨_, z0, i0⟩ := h 0 _ rfl
    obtain ⟨_, z1, i1⟩ := h 1 _ rfl
    obtain ⟨_, z2, i2⟩ := h 2 _ rfl
    obtain ⟨_, z3, i3⟩ := h 3 _ rfl
    cases z0
    cases z1
    cases z2
    cases z3
    simp only [List.all_cons, List.all_nil, id, Bool.and_true, Bool.and_eq_true, i0, i1, i2, i3]
    exact ⟨fun ⟨a, b, c, d⟩ => ⟨hh, a, b, c, d⟩, fun ⟨_, a, b, c, d⟩ => ⟨a, b, c, d⟩⟩
theorem r_is_entry (T : Tx K mg) : FnR P w K mg base CX0 2 (ga K "is_entry") (spIsEntry K) := by
  refine fnr0 T.F_is_entry sc_is_entry (fun vs H Q E h => ?_) hb_is_entry (fun cdv A outer s H vs Q E hr h => ?_)
  · obtain ⟨v, e, rfl, _⟩ := h
    rfl
  · obtain ⟨v, e, rfl, ⟨t, q, rfl, ht, hq⟩, k⟩ := h
    refine ⟨_, pss_cons (ps_if (PW.pt (pw_or (pt_cmpR op_lt (pe_ix ix_tup (pv 0) pe_int (fun _ _ => rfl)) pe_int (nomark _)) (pw_or1 (pt_cmpR op_gt (pe_ix ix_tup (pv 0) pe_int (fun _ _ => rfl)) (pe_gi rfl T.ig_DEEPEST) (nomark _))))) (pss_one (ps_ret pe_bl)) pss_nil)
      (pss_one (ps_ret (pe_callB (cr_all rfl) rfl T.fr_all (by decide +kernel) (pa_cons (pe_lc (own := [("places", 1)]) (g := gName 1) (tt := tYes) rfl sc_is_entry.nd (pi_list (pe_op op_cat (pe_lst (pa_cons (pe_ix ix_tup (pv 0) pe_int (fun _ _ => rfl)) pa_nil)) (pe_callTy call_list_of rfl T.fr_list (by decide +kernel) (pa_cons (pe_ix ix_tup (pv 0) pe_int (fun _ _ => rfl)) pa_nil))))
          (blkOk_by (N := N_is_entry) (sc := defScope s_is_entry) (by decide +kernel)) (fun _ _ _ _ _ => pg_name (i := 1) sc_is_entry.nd rfl (.inl rfl)) (fun _ _ _ _ _ => pts_nil)
          (fun _ _ _ _ _ => pe_f (r_is_set T) hr rfl T.gl_is_set T.kp_is_set pass0 (pa_cons (pv 1) (pa_cons (pe_ix (ixT (K := K) rfl) (pv 0) pe_int (fun _ _ => rfl)) pa_nil)))) pa_nil)))), ?_⟩
    refine ⟨_, rfl, t, _, _, vi e.h, rfl, rfl, ht, rfl, _, _, rfl, rfl, _, rfl, ?_⟩
    rw [decide_eq_false (show ¬ (e.h : Int) < 0 by omega)]
    refine iteF ⟨_, rfl, t, _, _, vi e.h, rfl, rfl, ht, rfl, _, _, rfl, rfl, _, rfl, ?_⟩
    refine ite2 (fun c => ?_) (fun c => ?_)
    · have c := of_decide_eq_true c
      exact k _ _ Same.rfl ⟨fun z => (by cases z), fun z => absurd z.1 (by omega)⟩
    · have c : ¬ (4000 : Int) < (e.h : Int) := fun z => c (decide_eq_true z)
      refine ⟨_, rfl, t, _, _, vi e.b, rfl, rfl, ht, rfl, (by show 1 ≤ sizeLine; decide), fun l1 h1 => ?_⟩
      have s1 := Same.new (o := .lst [vi e.b]) h1
      refine ⟨_, rfl, t, _, _, .ref q, rfl, rfl, (Same.kp s1).seqT ht, rfl, q, _, rfl, .inr ((Same.kp s1).seqT hq), fun l2 h2 => ?_⟩
      have s2 := Same.new (o := .lst [vi e.x4, vi e.x5, vi e.x6]) h2
      refine ⟨l1, l2, _, _, rfl, rfl, s2 _ _ upd_same, upd_same, (by show 4 ≤ sizeLine; decide), fun l3 h3 => ?_⟩
      have s3 := Same.new (o := .lst (ns (setsOf e))) h3
      have s123 := Same.trans (Same.trans s1 s2) s3
      refine ⟨l3, rfl, ⟨_, SqL.of upd_same⟩, fun D hD => ?_⟩
      have h3' : upd (upd (upd H l1 (.lst [vi e.b])) l2 (.lst [vi e.x4, vi e.x5, vi e.x6])) l3 (.lst (ns (setsOf e))) l3 = some (.lst (ns (setsOf e))) := upd_same
      refine lc_list (K := K) (a := l3) (xs := ns (setsOf e)) (fun i H' => Same H H' ∧ H' l3 = some (.lst (ns (setsOf e))) ∧ l3 ≠ D ∧ i ≤ 4 ∧ ∃ bs : List Bool, bs.length = i ∧ H' D = some (.lst (bs.map V.bl)) ∧ ∀ j s, j < i → (setsOf e)[j]? = some s → ∃ b : Bool, bs[j]? = some b ∧ (b = true ↔ IsSet s e.h))
        ⟨Same.trans s123 (Same.new hD), Same.new hD _ _ h3', ne_of_none h3' hD, by omega, [], rfl, upd_same, fun j s hj => by omega⟩ (fun i H' _ ⟨_, a, _⟩ => SqL.of a) (fun i x H' hx ⟨sm, hl3, hne, hi, bs, hbl, hbD, hbs⟩ => ?_) (fun H' ⟨sm, _, _, _, bs, hbl, hbD, hbs⟩ => ?_)
      · have hi4 : i < 4 := by
          have := (List.getElem?_eq_some_iff.mp hx).1
          simpa [setsOf] using this
        obtain ⟨s0, hs0, rfl⟩ : ∃ s0, (setsOf e)[i]? = some s0 ∧ x = vi s0 := by
          rw [List.getElem?_map] at hx
          cases q0 : (setsOf e)[i]? with
          | none => rw [q0] at hx; cases hx
          | some s0 => rw [q0] at hx; cases hx; exact ⟨s0, rfl, rfl⟩
        refine ⟨rfl, _, rfl, _, rfl, t, _, _, vi e.h, rfl, rfl, (Same.kp sm).seqT ht, rfl, s0, e.h, rfl, fun b hb => ⟨_, hbD, lt_size (by simp; omega), Same.mut sm ?_, ?_, hne, by omega, bs ++ [b], by simp [hbl], ?_, ?_⟩⟩
        · exact Same.back s123 hD
        · rw [upd_ne hne]
          exact hl3
        · rw [upd_same]
          simp
        · intro j s hj hs
          by_cases c : j < i
          · obtain ⟨b', z1, z2⟩ := hbs j s c hs
            exact ⟨b', by rw [List.getElem?_append_left (by omega)]; exact z1, z2⟩
          · have : j = i := by omega
            subst this
            rw [hs0] at hs
            cases hs
            exact ⟨b, by rw [List.getElem?_append_right (by omega), hbl, Nat.sub_self]; rfl, hb⟩
      · refine ⟨D, bs, rfl, SqL.of hbD, k _ _ sm (all_ok (fun j s hs => hbs j s ?_ hs) hbl (by omega))⟩
        have := (List.getElem?_eq_some_iff.mp hs).1
        simpa [setsOf] using this
end
end Fb

set_option Elab.async false
set_option linter.all false
set_option maxRecDepth 100000
set_option maxHeartbeats 4000000
set_option exponentiation.threshold 5000
namespace Fb
open PySem PySem.Spec PyProof.Rows L2
open He (ga ma)
theorem pgT {X : Cx} {K : PySem.W.Frag} {pos : Pos} {es : List Expr} {k : Nat} {t : TGs} {n : Nat} (e : X.K = K) (hc : X.calm = true) (h : PGs X es t) (h1 : (assignEach es X.env).length = n := by rfl) (h2 : List.findIdx? (fun x => x.fst) (assignEach es X.env) = none := by rfl) : PG X (.Tuple es k pos) (gTup K n t) := e ▸ pg_tup hc h h1 h2
def isBack : RowD → Bool
  | .back _ => true
  | _ => false
def isCall : RowD → Bool
  | .call _ => true
  | _ => false
def isDrop : RowD → Bool
  | .drop _ => true
  | _ => false
section
variable {P : Program} {w : World} {K : PySem.W.Frag} {mg : Str → Option Value} {base : Heap}
theorem Tx.kit (T : Tx K mg) (r : RowD) : kitB3 K (cN r, isBack r, isCall r, isDrop r) = true := by
  have h : kits.all (kitB3 K) = true := (bb T.c.2).1
  have h2 := List.all_eq_true.mp h
  cases r <;> exact h2 _ (by simp [kits, cN, isBack, isCall, isDrop])
theorem Tx.tyr (T : Tx K mg) {r : RowD} {H : Hp} {a : Addr} (h : RowAt K H a r) : TyX K H (.ref a) (.ref (ga K (cN r))) := by
  obtain ⟨dx, hx⟩ := h
  have e := (bb (T.kit r)).1
  unfold insB at e
  obtain ⟨e1, e2⟩ := bb e
  exact .base (.ins hx (T.clR r) (He.eqO_ok e1) rfl rfl (of_decide_eq_true e2))
theorem Tx.kitBack (T : Tx K mg) (r : RowD) : PySem.W.kitOne K (.ref (ga K (cN r))) (.ref (ga K "Back")) = some (isBack r) := of_decide_eq_true (bb (bb (T.kit r)).2).1
theorem Tx.kitCall (T : Tx K mg) (r : RowD) : PySem.W.kitOne K (.ref (ga K (cN r))) (.ref (ga K "Call")) = some (isCall r) := of_decide_eq_true (bb (bb (bb (T.kit r)).2).2).1
theorem Tx.kitDrop (T : Tx K mg) (r : RowD) : PySem.W.kitOne K (.ref (ga K (cN r))) (.ref (ga K "Drop")) = some (isDrop r) := of_decide_eq_true (bb (bb (bb (T.kit r)).2).2).2
/-! ### may_go_back -/
def BackOk (b : Nat) (e : Ent) : Prop := e.h = 0 ∧ e.b.testBit b = true ∧ e.x4.testBit 4 = true ∧ e.x5.testBit 5 = true ∧ e.x6.testBit 6 = true
def spMayBack (K : PySem.W.Frag) : Sp := fun vs H Q _ => ∃ (b : Nat) (v : V) (e : Ent), vs = [vi b, v] ∧ b ≤ 7 ∧ EntV K H v (some e) ∧ ∀ (c : Bool) H', Same H H' → (c = true ↔ BackOk b e) → Q (.bl c) H'
def anded (e : Ent) : List Int := [((e.x4 &&& 16 : Nat) : Int), ((e.x5 &&& 32 : Nat) : Int), ((e.x6 &&& 64 : Nat) : Int)]
theorem anded_all (e : Ent) : (anded e).all (fun n => n != 0) = true ↔ e.x4.testBit 4 = true ∧ e.x5.testBit 5 = true ∧ e.x6.testBit 6 = true := by
  rw [← and_two_pow_ne, ← and_two_pow_ne, ← and_two_pow_ne]
  show (anded e).all (fun n => n != 0) = true ↔ (e.x4 &&& 16) ≠ 0 ∧ (e.x5 &&& 32) ≠ 0 ∧ (e.x6 &&& 64) ≠ 0
  unfold anded
  simp only [List.all_cons, List.all_nil, Bool.and_true, Bool.and_eq_true, bne_iff_ne, ne_eq, Int.natCast_eq_zero]
theorem r_may_go_back (T : Tx K mg) : FnR P w K mg base CX0 1 (ga K "may_go_back") (spMayBack K) := by
  refine fnr0 T.F_may_go_back sc_may_go_back (fun vs H Q E h => ?_) hb_may_go_back (fun cdv A outer s H vs Q E hr h => ?_)
  · obtain ⟨b, v, e, rfl, _⟩ := h
    rfl
  · obtain ⟨b, v, e, rfl, hb7, ⟨t, q, rfl, ht, hq⟩, k⟩ := h
    obtain ⟨t', q', ets, hts, hqs⟩ := T.start H
    cases ets
    refine ⟨_, pss_cons (ps_if (PW.pt (pw_or (pt_cmpR op_ne (pe_ix ix_tup (pv 1) pe_int (fun _ _ => rfl)) pe_int (nomark _)) (pw_or1 (pt_not (pt_truth (pe_op op_and (pe_ix ix_tup (pv 1) pe_int (fun _ _ => rfl)) (pe_op op_shl pe_int (pv 0))) (by intro _; rfl)))))) (pss_one (ps_ret pe_bl)) pss_nil)
      (pss_one (ps_ret (pe_callB (cr_allI rfl) rfl T.fr_all (by decide +kernel) (pa_cons (pe_lc (own := [("places", 2), ("own", 3)]) (g := gTup K 2 (gCons (gName 2) (gCons (gName 3) gNil))) (tt := tYes) rfl sc_may_go_back.nd (RZ.pi_zipA rfl T.fr_zip (pa_cons (pe_ix ix_tup (pv 1) pe_int (fun _ _ => rfl)) (pa_cons (pe_ix ix_tup (pe_glob (v := V.ref (ga K "START")) rfl T.gl_START rfl) pe_int (fun _ _ => rfl)) pa_nil)))
          (blkOk_by (N := N_may_go_back) (sc := defScope s_may_go_back) (by decide +kernel)) (fun _ _ _ _ _ => pgT rfl rfl (pgs_cons (pg_name (i := 2) sc_may_go_back.nd rfl (.inl rfl)) (pgs_cons (pg_name (i := 3) sc_may_go_back.nd rfl (.inl rfl)) pgs_nil))) (fun _ _ _ _ _ => pts_nil)
          (fun _ _ _ _ _ => pe_op op_and (pv 2) (pv 3))) pa_nil)))), ?_⟩
    refine ⟨_, rfl, t, _, _, vi e.h, rfl, rfl, ht, rfl, rfl, _, rfl, ?_⟩
    have eh : decide (vi e.h = V.int 0) = decide (e.h = 0) := decide_eq_decide.mpr ⟨fun z => by have := V.int.inj z; omega, fun z => by rw [z]; rfl⟩
    rw [eh]
    by_cases c : e.h = 0
    · rw [decide_eq_true c]
      refine iteF ⟨_, rfl, t, _, _, vi e.b, rfl, rfl, ht, rfl, _, rfl, _, _, rfl, rfl, CPow_one (by omega), _, _, rfl, rfl, ?_⟩
      have e2 : Builtin.bitAnd (e.b : Int) (1 * 2 ^ (b : Int).toNat) = ((e.b &&& 2 ^ b : Nat) : Int) := by
        rw [Int.one_mul, Int.toNat_natCast, show ((2 : Int) ^ b) = ((2 ^ b : Nat) : Int) from (Int.natCast_pow 2 b).symm, and_nn]
      have e3 : (((e.b &&& 2 ^ b : Nat) : Int) != 0) = e.b.testBit b := by
        cases z : e.b.testBit b with
        | true =>
          have := (and_two_pow_ne e.b b).mpr z
          rw [bne_iff_ne]
          omega
        | false =>
          have : ¬ (e.b &&& 2 ^ b) ≠ 0 := fun y => by rw [(and_two_pow_ne e.b b).mp y] at z; cases z
          rw [bne_eq_false_iff_eq]
          omega
      refine ⟨e.b.testBit b, ?_, ?_⟩
      · show e.b.testBit b = (Builtin.bitAnd (e.b : Int) (1 * 2 ^ (b : Int).toNat) != 0)
        rw [e2, e3]
      cases hbit : e.b.testBit b with
      | false =>
        refine iteT (k _ _ Same.rfl ⟨fun z => (by cases z), fun z => ?_⟩)
        rw [z.2.1] at hbit
        cases hbit
      | true =>
        refine iteF ⟨_, rfl, t, _, _, .ref q, rfl, rfl, ht, rfl, _, _, _, .ref q', rfl, rfl, hts, rfl, q, q', _, _, rfl, .inr ⟨hq, hqs, fun D hD => ?_⟩⟩
        refine lc_zipT (K := K) (a := q) (b := q') (xs := [vi e.x4, vi e.x5, vi e.x6]) (ys := [vi 16, vi 32, vi 64]) rfl (fun i H' => Same H H' ∧ H' D = some (.lst (((anded e).take i).map V.int))) ⟨Same.new hD, upd_same⟩ (fun i H' ⟨sm, _⟩ => ⟨(Same.kp sm).seqT hq, (Same.kp sm).seqT hqs⟩) (fun i x y Z H' hx hy ⟨sm, hDl⟩ hZ => ?_) (fun H' ⟨sm, hDl⟩ => ?_)
        · have s2 := Same.new (o := .tup [x, y]) hZ
          match i, hx, hy with
          | 0, hx, hy =>
            cases hx
            cases hy
            refine ⟨Z, _, rfl, SqT.of upd_same, rfl, _, _, rfl, _, _, rfl, rfl, rfl, _, rfl, _, rfl, _, _, rfl, rfl, _, s2 _ _ hDl, lt_size (by simp), Same.mut (Same.trans sm s2) hD, ?_⟩
            rw [upd_same]
            show some (HO.lst (_ ++ [V.int (Builtin.bitAnd (e.x4 : Int) ((16 : Nat) : Int))])) = _
            rw [and_nn]
            rfl
          | 1, hx, hy =>
            cases hx
            cases hy
            refine ⟨Z, _, rfl, SqT.of upd_same, rfl, _, _, rfl, _, _, rfl, rfl, rfl, _, rfl, _, rfl, _, _, rfl, rfl, _, s2 _ _ hDl, lt_size (by simp [anded]), Same.mut (Same.trans sm s2) hD, ?_⟩
            rw [upd_same]
            show some (HO.lst (_ ++ [V.int (Builtin.bitAnd (e.x5 : Int) ((32 : Nat) : Int))])) = _
            rw [and_nn]
            rfl
          | 2, hx, hy =>
            cases hx
            cases hy
            refine ⟨Z, _, rfl, SqT.of upd_same, rfl, _, _, rfl, _, _, rfl, rfl, rfl, _, rfl, _, rfl, _, _, rfl, rfl, _, s2 _ _ hDl, lt_size (by simp [anded]), Same.mut (Same.trans sm s2) hD, ?_⟩
            rw [upd_same]
            show some (HO.lst (_ ++ [V.int (Builtin.bitAnd (e.x6 : Int) ((64 : Nat) : Int))])) = _
            rw [and_nn]
            rfl
          | i + 3, hx, _ => simp at hx
        · refine ⟨D, anded e, rfl, SqL.of hDl, k _ _ sm ?_⟩
          rw [anded_all]
          exact ⟨fun ⟨a, b, d⟩ => ⟨c, hbit, a, b, d⟩, fun ⟨_, _, a, b, d⟩ => ⟨a, b, d⟩⟩
    · rw [decide_eq_false c]
      exact iteT (k _ _ Same.rfl ⟨fun z => (by cases z), fun z => absurd z.1 c⟩)
/-! ### own_complaint -/
def spOwn (K : PySem.W.Frag) : Sp := fun vs H Q _ => ∃ (a : Addr) (v : V) (r : RowD) (e : Ent), vs = [.ref a, v] ∧ RowAt K H a r ∧ r.ok ∧ EntV K H v (some e) ∧ ∀ (u : V) H', Same H H' → (u = .non ↔ OwnOk r e) → Q u H'
theorem r_own (T : Tx K mg) : FnR P w K mg base CX0 3 (ga K "own_complaint") (spOwn K) := by
  refine fnr0 T.F_own_complaint sc_own_complaint (fun vs H Q E h => ?_) hb_own_complaint (fun cdv A outer s H vs Q E hr h => ?_)
  · obtain ⟨a, v, r, e, rfl, _⟩ := h
    rfl
  · obtain ⟨a, v, r, e, rfl, hx, hok, he, k⟩ := h
    refine ⟨_, pss_cons (ps_if (pt_not (pt_val (pe_f (r_is_entry T) hr rfl T.gl_is_entry T.kp_is_entry pass0 (pa_cons (pv 1) pa_nil)))) (pss_one (ps_ret pe_str)) pss_nil)
      (pss_cons (ps_if (pt_cmpR op_isN (pe_methR (pv 0) (T.clR r) (T.me_height r) (ok_height T r) (hr.mono (by decide)) pass0 (pa_cons (pe_ix ix_tup (pv 1) pe_int (fun _ _ => rfl)) pa_nil)) pe_non (nomark _)) (pss_one (ps_ret pe_str)) pss_nil)
      (pss_cons (ps_if (PW.pt (pw_and (pt_val (pe_callB call_isi rfl T.fr_isinstance (by decide +kernel) (pa_cons (pv 0) (pa_cons (pe_glob (v := V.ref (ga K "Back")) rfl T.gl_Back rfl) pa_nil))))
          (pw_and1 (pt_not (pt_val (pe_f (r_may_go_back T) (hr.mono (by decide)) rfl T.gl_may_go_back T.kp_may_go_back pass0 (pa_cons (pe_fld (pv 0) rfl) (pa_cons (pv 1) pa_nil)))))))) (pss_one (ps_ret pe_str)) pss_nil)
      (pss_one (ps_ret pe_non)))), ?_⟩
    refine ⟨_, rfl, v, e, rfl, he, fun b H1 s1 hb => ⟨_, rfl, ?_⟩⟩
    cases b with
    | false =>
      refine iteT (k _ _ s1 ⟨fun z => (by cases z), fun z => absurd (hb.mpr z.1) (by decide)⟩)
    | true =>
      have hE := hb.mp rfl
      obtain ⟨dx, hx1⟩ := RowAt.same s1 hx
      obtain ⟨t, q, rfl, ht, hq⟩ := (Same.kp s1).ent he
      refine iteF ⟨_, rfl, a, dx, _, rfl, hx1, no_height r, _, rfl, t, _, _, vi e.h, rfl, rfl, ht, rfl, a, e.h, rfl, ⟨dx, hx1⟩, rfl, _, rfl, ?_⟩
      cases hh : heightN r e.h with
      | none =>
        refine iteT (k _ _ s1 ⟨fun z => (by cases z), fun z => ?_⟩)
        obtain ⟨h', e1⟩ := z.2.1
        rw [hh] at e1
        cases e1
      | some h' =>
        refine iteF ⟨_, rfl, _, _, _, _, _, rfl, .own _, T.tyr ⟨dx, hx1⟩, T.kitBack r, _, rfl, ?_⟩
        cases r with
        | back b =>
          have hbk : b ≤ 7 := hok
          refine iteT ⟨_, rfl, a, _, dx, _, _, rfl, hx1, T.cl_Back, T.no_Back_box, rfl, _, rfl, b, _, e, rfl, hbk, ⟨t, q, rfl, ht, hq⟩, fun c H2 s2 hc => ⟨_, rfl, ?_⟩⟩
          cases c with
          | false =>
            refine iteT (k _ _ (Same.trans s1 s2) ⟨fun z => (by cases z), fun z => absurd (hc.mpr (z.2.2 b rfl)) (by decide)⟩)
          | true =>
            refine iteF (k _ _ (Same.trans s1 s2) ⟨fun _ => ⟨hE, ⟨h', hh⟩, fun b' eb => ?_⟩, fun _ => rfl⟩)
            cases eb
            exact hc.mp rfl
        | _ => exact iteF (k _ _ s1 ⟨fun _ => ⟨hE, ⟨h', hh⟩, fun b eb => (by cases eb)⟩, fun _ => rfl⟩)
end
end Fb

set_option Elab.async false
set_option linter.all false
set_option maxRecDepth 100000
set_option maxHeartbeats 4000000
set_option exponentiation.threshold 5000
namespace Fb
open PySem PySem.Spec PyProof.Rows L2
open He (ga ma)
/-! ### walks by enumerate -/
theorem for_ite {K : PySem.W.Frag} {a : Addr} {xs : List V} {g : TG} {tb : TS} {D : Ends} {σ : L2.St} {H : Hp} (Pv : Nat → L2.St → Hp → Prop) (h0 : Pv 0 σ H) (hl : ∀ i σ H, Pv i σ H → SqL K H a xs)
    (hs : ∀ (i : Nat) (x : V) (T : Addr) (σ : L2.St) (H : Hp), xs[i]? = some x → Pv i σ H → H T = none → g (.ref T) σ (upd H T (.tup [vi i, x])) fun σ2 H2 => tb { D with nx := Pv (i + 1), ct := Pv (i + 1), bk := D.nx } σ2 H2) (hd : ∀ σ H, Pv xs.length σ H → D.nx σ H) :
    ∃ W : Nat → Nat → L2.St → Hp → Prop, (∃ m, W 0 m σ H) ∧ ∀ i m σ H, W i m σ H →
      ((Ite K a).stop i H ∧ D.nx σ H) ∨ ((Ite K a).go i H ∧ ∃ N : L2.St → Hp → Prop, (∀ σ' H', N σ' H' → ∃ m', m' < m ∧ W (i + 1) m' σ' H') ∧ ∀ v H', (Ite K a).yld i H v H' → g v σ H' fun σ2 H2 => tb { D with nx := N, ct := N, bk := D.nx } σ2 H2) := by
  refine ⟨fun i m σ H => m = xs.length - i ∧ i ≤ xs.length ∧ Pv i σ H, ⟨xs.length, rfl, Nat.zero_le _, h0⟩, ?_⟩
  rintro i m σ H ⟨rfl, hi, p⟩
  have qx := hl i σ H p
  by_cases hlt : i < xs.length
  · have hx : xs[i]? = some xs[i] := List.getElem?_eq_getElem hlt
    refine .inr ⟨⟨xs, _, qx, hx⟩, Pv (i + 1), fun σ' H' p' => ⟨xs.length - (i + 1), by omega, rfl, hlt, p'⟩, fun v H' y => ?_⟩
    obtain ⟨T, x', rfl, hT, rfl, f1⟩ := y
    exact hs i x' T σ H (f1 xs qx) p hT
  · have e : i = xs.length := by omega
    subst e
    exact .inl ⟨⟨xs, qx, Nat.le_refl _⟩, hd σ H p⟩
theorem for_itek {K : PySem.W.Frag} {a : Addr} {k0 : Nat} {xs : List V} {g : TG} {tb : TS} {D : Ends} {σ : L2.St} {H : Hp} (Pv : Nat → L2.St → Hp → Prop) (h0 : Pv 0 σ H) (hl : ∀ i σ H, Pv i σ H → SqL K H a xs)
    (hs : ∀ (i : Nat) (x : V) (T : Addr) (σ : L2.St) (H : Hp), xs[i]? = some x → Pv i σ H → H T = none → g (.ref T) σ (upd H T (.tup [vi (k0 + i), x])) fun σ2 H2 => tb { D with nx := Pv (i + 1), ct := Pv (i + 1), bk := D.nx } σ2 H2) (hd : ∀ σ H, Pv xs.length σ H → D.nx σ H) :
    ∃ W : Nat → Nat → L2.St → Hp → Prop, (∃ m, W 0 m σ H) ∧ ∀ i m σ H, W i m σ H →
      ((Itek K a (k0 : Int)).stop i H ∧ D.nx σ H) ∨ ((Itek K a (k0 : Int)).go i H ∧ ∃ N : L2.St → Hp → Prop, (∀ σ' H', N σ' H' → ∃ m', m' < m ∧ W (i + 1) m' σ' H') ∧ ∀ v H', (Itek K a (k0 : Int)).yld i H v H' → g v σ H' fun σ2 H2 => tb { D with nx := N, ct := N, bk := D.nx } σ2 H2) := by
  refine ⟨fun i m σ H => m = xs.length - i ∧ i ≤ xs.length ∧ Pv i σ H, ⟨xs.length, rfl, Nat.zero_le _, h0⟩, ?_⟩
  rintro i m σ H ⟨rfl, hi, p⟩
  have qx := hl i σ H p
  by_cases hlt : i < xs.length
  · have hx : xs[i]? = some xs[i] := List.getElem?_eq_getElem hlt
    refine .inr ⟨⟨xs, _, qx, hx⟩, Pv (i + 1), fun σ' H' p' => ⟨xs.length - (i + 1), by omega, rfl, hlt, p'⟩, fun v H' y => ?_⟩
    obtain ⟨T, x', rfl, hT, rfl, f1⟩ := y
    have e : V.int ((k0 : Int) + ((i : Nat) : Int)) = vi (k0 + i) := congrArg V.int (by omega)
    rw [e]
    exact hs i x' T σ H (f1 xs qx) p hT
  · have e : i = xs.length := by omega
    subst e
    exact .inl ⟨⟨xs, qx, Nat.le_refl _⟩, hd σ H p⟩
/-! ### entries as data -/
def entD : Option Ent → PyData
  | none => .none
  | some e => .tuple [.int e.h, .int e.b, .tuple [.int e.x4, .int e.x5, .int e.x6]]
theorem entD_eqv (a b : Option Ent) : PyData.eqv (entD a) (entD b) = true ↔ a = b := by
  cases a with
  | none => cases b with
    | none => exact ⟨fun _ => rfl, fun _ => rfl⟩
    | some b => exact ⟨fun z => (by simp [entD, PyData.eqv] at z), fun z => by cases z⟩
  | some a => cases b with
    | none => exact ⟨fun z => (by simp [entD, PyData.eqv] at z), fun z => by cases z⟩
    | some b =>
      obtain ⟨a1, a2, a3, a4, a5⟩ := a
      obtain ⟨b1, b2, b3, b4, b5⟩ := b
      simp only [entD, PyData.eqv, PyData.eqvAll, Bool.and_true, Bool.and_eq_true, beq_iff_eq, Option.some.injEq, Ent.mk.injEq]
      omega
theorem entD_dp {K : PySem.W.Frag} {H : Hp} {v : V} {e : Option Ent} (h : EntV K H v e) : Dp K H v (entD e) := by
  cases e with
  | none =>
    cases h
    exact .non
  | some e =>
    obtain ⟨t, q, rfl, ht, hq⟩ := h
    exact .tup ht (.cons (.int _) (.cons (.int _) (.cons (.tup hq (.cons (.int _) (.cons (.int _) (.cons (.int _) .nil)))) .nil)))
theorem entD_shaped (e : Option Ent) : SeqAt.shaped (entD e) = true := by
  cases e <;> rfl
/-! ### landings -/
theorem valV_ls (ls : List (Nat × Nat)) (i : Nat) : valV (lsV ls) (Sum.inl (i : Int)) = (landOf ls i).map vi := by
  unfold valV landOf lsV
  induction ls with
  | nil => rfl
  | cons q ls ih =>
    rw [List.map_cons, List.find?_cons, List.find?_cons]
    by_cases e : q.1 = i
    · rw [decide_eq_true e, decide_eq_true (show (Sum.inl (q.1 : Int) : Key) = Sum.inl (i : Int) by rw [e])]
      rfl
    · rw [decide_eq_false e, decide_eq_false (show ¬ (Sum.inl (q.1 : Int) : Key) = Sum.inl (i : Int) from fun z => e (by have := Sum.inl.inj z; omega))]
      exact ih
section
variable {P : Program} {w : World} {K : PySem.W.Frag} {mg : Str → Option Value} {base : Heap}
/-! ### unlike -/
def FolO (r : RowD) (e : Ent) (o : Option Ent) : Prop := ∃ x h, o = some x ∧ heightN r e.h = some h ∧ SubE x (behindN r e h)
def spUnlike (K : PySem.W.Frag) : Sp := fun vs H Q _ => ∃ (a : Addr) (v u : V) (r : RowD) (e : Ent) (o : Option Ent), vs = [.ref a, v, u] ∧ RowAt K H a r ∧ r.ok ∧ EntV K H v (some e) ∧ EntV K H u o ∧ OwnOk r e ∧ ∀ z : V, (z = .non ↔ FolO r e o) → Q z H
def thr (e : Ent) : List Nat := [e.x4, e.x5, e.x6]
theorem thr_big {e : Ent} (h : IsEntry e) {i s : Nat} (hs : (thr e)[i]? = some s) : s < Big := by
  obtain ⟨hh, _, h1, h2, h3⟩ := h
  match i, hs with
  | 0, hs => cases hs; exact isSet_big h1 hh
  | 1, hs => cases hs; exact isSet_big h2 hh
  | 2, hs => cases hs; exact isSet_big h3 hh
  | i + 3, hs => simp [thr] at hs
theorem sub_bool (a b : Nat) : ((((a - (a &&& b) : Nat) : Int) != 0) = true ↔ ¬ Sub a b) := by
  rw [bne_iff_ne, ← sub_iff]
  omega
theorem r_unlike (T : Tx K mg) : FnR P w K mg base CX0 4 (ga K "unlike") (spUnlike K) := by
  refine fnr0 T.F_unlike sc_unlike (fun vs H Q E h => ?_) hb_unlike (fun cdv A outer s H vs Q E hr h => ?_)
  · obtain ⟨a, v, u, r, e, o, rfl, _⟩ := h
    rfl
  · obtain ⟨a, v, u, r, e, o, rfl, ⟨dx, hx⟩, hok, ⟨t, q, rfl, ht, hq⟩, ho, hown, k⟩ := h
    obtain ⟨hE, ⟨h', hh⟩, _⟩ := hown
    have dSub : ∀ a b, Decidable (Sub a b) := fun a b => inferInstanceAs (Decidable ((a &&& b) = a))
    refine ⟨_, pss_cons (ps_if (pt_cmpR op_isN (pv 2) pe_non (nomark _)) (pss_one (ps_ret pe_str)) pss_nil)
      (pss_cons (ps_if (pt_cmpR op_ne (pe_ix ix_tup (pv 2) pe_int (fun _ _ => rfl)) (pe_methR (pv 0) (T.clR r) (T.me_height r) (ok_height T r) (hr.mono (by decide)) pass0 (pa_cons (pe_ix ix_tup (pv 1) pe_int (fun _ _ => rfl)) pa_nil)) (nomark _)) (pss_one (ps_ret pe_str)) pss_nil)
      (pss_cons (ps_if (pt_truth (pe_op op_and (pe_ix ix_tup (pv 2) pe_int (fun _ _ => rfl)) (pe_un un_inv (pe_methR (pv 0) (T.clR r) (T.me_keeps r) (ok_keeps T r) hr pass0 (pa_cons (pe_ix ix_tup (pv 1) pe_int (fun _ _ => rfl)) (pa_cons (pe_ix ix_tup (pv 1) pe_int (fun _ _ => rfl)) pa_nil))))) (by intro _; rfl)) (pss_one (ps_ret pe_str)) pss_nil)
      (pss_cons (ps_for PassesOwn.never rfl (pi_range1 rfl T.fr_range (pa_cons pe_int pa_nil)) (pg_name (i := 3) sc_unlike.nd rfl (.inl rfl))
        (pss_one (ps_if (pt_truth (pe_op op_and (pe_ix ix_tup (pe_ix ix_tup (pv 2) pe_int (fun _ _ => rfl)) (pv 3) (fun _ _ => rfl)) (pe_un un_inv (pe_methR (pv 0) (T.clR r) (T.me_keeps r) (ok_keeps T r) hr pass0 (pa_cons (pe_ix ix_tup (pe_ix ix_tup (pv 1) pe_int (fun _ _ => rfl)) (pv 3) (fun _ _ => rfl)) (pa_cons (pe_ix ix_tup (pv 1) pe_int (fun _ _ => rfl)) pa_nil))))) (by intro _; rfl)) (pss_one (ps_ret (pe_op op_add pe_int (pv 3)))) pss_nil)))
      (pss_one (ps_ret pe_non))))), ?_⟩
    refine ⟨_, rfl, rfl, _, rfl, ?_⟩
    cases o with
    | none =>
      cases ho
      exact iteT (k _ ⟨fun z => (by cases z), fun ⟨_, _, z, _⟩ => (by cases z)⟩)
    | some x =>
      obtain ⟨t2, q2, rfl, ht2, hq2⟩ := ho
      refine iteF ⟨_, rfl, t2, _, _, vi x.h, rfl, rfl, ht2, rfl, _, rfl, a, dx, _, rfl, hx, no_height r, _, rfl, t, _, _, vi e.h, rfl, rfl, ht, rfl, a, e.h, rfl, ⟨dx, hx⟩, ?_⟩
      rw [hh]
      refine ⟨rfl, _, rfl, ?_⟩
      have eh : decide (vi x.h = vo (some h')) = decide (x.h = h') := decide_eq_decide.mpr ⟨fun z => by have := V.int.inj z; omega, fun z => by rw [z]; rfl⟩
      rw [eh]
      by_cases ch : x.h = h'
      · rw [decide_eq_true ch]
        refine iteF ⟨_, rfl, t2, _, _, vi x.b, rfl, rfl, ht2, rfl, _, rfl, a, dx, _, rfl, hx, no_keeps r, _, rfl, t, _, _, vi e.b, rfl, rfl, ht, rfl, _, rfl, t, _, _, vi e.h, rfl, rfl, ht, rfl, a, e.b, e.h, rfl, ⟨dx, hx⟩, hok, hE.1, isSet_big hE.2.1 hE.1, ⟨h', hh⟩, ?_⟩
        refine ⟨_, rfl, _, _, rfl, rfl, decide (¬ Sub x.b (keepsN r e.b e.h)), ?_, ?_⟩
        · show decide (¬ Sub x.b (keepsN r e.b e.h)) = (Builtin.bitAnd (x.b : Int) (Builtin.bitNot (keepsN r e.b e.h : Int)) != 0)
          rw [andNot_nn, Bool.eq_iff_iff, sub_bool, decide_eq_true_eq]
        by_cases cb : Sub x.b (keepsN r e.b e.h)
        · rw [decide_eq_false (fun z => z cb)]
          refine iteF ?_
          refine ⟨3, rfl, by decide, by decide, ?_⟩
          refine for_range (lo := 0) (n := 3) (fun i σ H' => H' = H ∧ (∃ kk, σ = [some (.ref a), some (.ref t), some (.ref t2), kk]) ∧ ∀ j s s', j < i → (thr x)[j]? = some s → (thr e)[j]? = some s' → Sub s (keepsN r s' e.h)) ⟨rfl, ⟨none, rfl⟩, fun j _ _ hj => absurd hj (by omega)⟩ (fun i σ H' hi ⟨eH, ⟨kk, eσ⟩, inv⟩ => ?_) (fun σ H' ⟨eH, ⟨kk, eσ⟩, inv⟩ => ?_)
          · subst eH eσ
            have h1 : (thr x)[i]? = some ((thr x).getD i 0) := by
              rw [List.getD_eq_getElem?_getD, List.getElem?_eq_getElem (show i < (thr x).length from hi)]
              rfl
            have h2 : (thr e)[i]? = some ((thr e).getD i 0) := by
              rw [List.getD_eq_getElem?_getD, List.getElem?_eq_getElem (show i < (thr e).length from hi)]
              rfl
            refine ⟨_, rfl, t2, _, _, .ref q2, rfl, rfl, ht2, rfl, _, rfl, q2, ns (thr x), _, _, rfl, rfl, hq2, at_nat (by omega) (ns_get h1), _, rfl, a, dx, _, rfl, hx, no_keeps r, _, rfl, t, _, _, .ref q, rfl, rfl, ht, rfl, _, rfl, q, ns (thr e), _, _, rfl, rfl, hq, at_nat (by omega) (ns_get h2), _, rfl, t, _, _, vi e.h, rfl, rfl, ht, rfl, a, (thr e).getD i 0, e.h, rfl, ⟨dx, hx⟩, hok, hE.1, thr_big hE h2, ⟨h', hh⟩, ?_⟩
            refine ⟨_, rfl, _, _, rfl, rfl, decide (¬ Sub ((thr x).getD i 0) (keepsN r ((thr e).getD i 0) e.h)), ?_, ?_⟩
            · show decide (¬ Sub ((thr x).getD i 0) (keepsN r ((thr e).getD i 0) e.h)) = (Builtin.bitAnd ((thr x).getD i 0 : Int) (Builtin.bitNot (keepsN r ((thr e).getD i 0) e.h : Int)) != 0)
              rw [andNot_nn, Bool.eq_iff_iff, sub_bool, decide_eq_true_eq]
            by_cases cc : Sub ((thr x).getD i 0) (keepsN r ((thr e).getD i 0) e.h)
            · rw [decide_eq_false (fun z => z cc)]
              refine iteF ⟨rfl, ⟨_, rfl⟩, fun j s s' hj hs hs' => ?_⟩
              by_cases c : j < i
              · exact inv j s s' c hs hs'
              · have : j = i := by omega
                subst this
                rw [h1] at hs
                rw [h2] at hs'
                cases hs
                cases hs'
                exact cc
            · rw [decide_eq_true cc]
              refine iteT ⟨_, rfl, _, _, rfl, rfl, k _ ⟨fun z => (by cases z), fun ⟨x', h2', ex, eh2, s1, s2, s3, s4, s5⟩ => ?_⟩⟩
              cases ex
              match i, h1, h2, cc with
              | 0, h1, h2, cc => exact absurd s3 cc
              | 1, h1, h2, cc => exact absurd s4 cc
              | 2, h1, h2, cc => exact absurd s5 cc
              | i + 3, _, _, _ => omega
          · subst eH eσ
            exact k _ ⟨fun _ => ⟨x, h', rfl, hh, ch, cb, inv 0 _ _ (by omega) rfl rfl, inv 1 _ _ (by omega) rfl rfl, inv 2 _ _ (by omega) rfl rfl⟩, fun _ => rfl⟩
        · rw [decide_eq_true cb]
          refine iteT (k _ ⟨fun z => (by cases z), fun ⟨x', h2', ex, eh2, s1, s2, _⟩ => ?_⟩)
          cases ex
          exact absurd s2 cb
      · rw [decide_eq_false ch]
        refine iteT (k _ ⟨fun z => (by cases z), fun ⟨x', h2', ex, eh2, s1, _⟩ => ?_⟩)
        cases ex
        rw [hh] at eh2
        cases eh2
        exact absurd s1 ch
end
end Fb

set_option Elab.async false
set_option linter.all false
set_option maxRecDepth 100000
set_option maxHeartbeats 4000000
set_option exponentiation.threshold 5000
namespace Fb
open PySem PySem.Spec PyProof.Rows L2
open He (ga ma)
/-- behind a statement: what holds there -/
theorem seq_join {t u : TS} {D : Ends} {σ : L2.St} {H : Hp} (S : L2.St → Hp → Prop) (h2 : ∀ σ H, S σ H → u D σ H) (h1 : ∀ N : L2.St → Hp → Prop, (∀ σ H, S σ H → N σ H) → t { D with nx := N } σ H) : tSeq t u D σ H := h1 _ h2
theorem inV_ns (n : Nat) (l : List Nat) : inV (vi n) (ns l) = true ↔ n ∈ l := by
  unfold inV
  rw [List.any_eq_true]
  constructor
  · rintro ⟨y, hy, e⟩
    obtain ⟨m, hm, rfl⟩ := List.mem_map.mp hy
    have e : ((m : Int) == (n : Int)) = true := e
    have : m = n := by
      have := beq_iff_eq.mp e
      omega
    rw [← this]
    exact hm
  · intro h
    exact ⟨vi n, List.mem_map.mpr ⟨n, h, rfl⟩, beq_iff_eq.mpr rfl⟩
theorem flat_ns : ∀ l : List Nat, (ns l).all flatV = true
  | [] => rfl
  | _ :: r => flat_ns r
theorem goes_len (r : RowD) (i : Nat) : (goesN r i).length ≤ 2 := by
  cases r <;> simp [goesN]
theorem pref_nil {xs : List V} {v : V} {p : Prop} (h : xs ++ [v] = []) : p := by simp at h
section
variable {P : Program} {w : World} {K : PySem.W.Frag} {mg : Str → Option Value} {base : Heap}
/-! ### onward -/
structure Lay (K : PySem.W.Frag) (H : Hp) (c tb : Addr) (rs : List RowD) (es : List (Option Ent)) (ls : List (Nat × Nat)) : Prop where
  code : CodeAt K H c rs
  tab : TabAt K H tb es ls
  ok : ∀ (i : Nat) (r : RowD), rs[i]? = some r → r.ok
  few : rs.length ≤ 2000
theorem Lay.kp {H H' : Hp} {c tb : Addr} {rs : List RowD} {es : List (Option Ent)} {ls : List (Nat × Nat)} (L : Lay K H c tb rs es ls) (k : Kp H H') : Lay K H' c tb rs es ls := ⟨k.code L.code, k.tab L.tab, L.ok, L.few⟩
def spOnward (K : PySem.W.Frag) : Sp := fun vs H Q _ => ∃ (c tb : Addr) (i : Nat) (rs : List RowD) (es : List (Option Ent)) (ls : List (Nat × Nat)) (r : RowD) (e : Ent), vs = [.ref c, .ref tb, vi i] ∧ Lay K H c tb rs es ls ∧ es.length = rs.length ∧ rs[i]? = some r ∧ es[i]? = some (some e) ∧ OwnOk r e ∧
  ∀ H' p xs, Same H H' → H p = none → H' p = some (.lst xs) → xs.length ≤ 3 → (xs = [] → (∀ j ∈ goesN r i, Follows r e es j) ∧ ∀ t, r = .call t → es[t]? = some (some START)) → Q (.ref p) H'
theorem fol_of {r : RowD} {e : Ent} {es : List (Option Ent)} {j : Nat} {o : Option Ent} (h : es[j]? = some o) (f : FolO r e o) : Follows r e es j := by
  obtain ⟨x, h', rfl, a, b⟩ := f
  exact ⟨x, h', h, a, b⟩
theorem of_fol {r : RowD} {e : Ent} {es : List (Option Ent)} {j : Nat} {o : Option Ent} (h : es[j]? = some o) (f : Follows r e es j) : FolO r e o := by
  obtain ⟨x, h', a, b, c⟩ := f
  rw [h] at a
  cases a
  exact ⟨x, h', rfl, b, c⟩
theorem r_onward (T : Tx K mg) : FnR P w K mg base CX0 5 (ga K "onward") (spOnward K) := by
  refine fnr0 T.F_onward sc_onward (fun vs H Q E h => ?_) hb_onward (fun cdv A outer s H vs Q E hr h => ?_)
  · obtain ⟨c, tb, i, rs, es, ls, r, e, rfl, _⟩ := h
    rfl
  · obtain ⟨c, tb, i, rs, es, ls, r, e, rfl, L, hel, hri, hei, hown, k⟩ := h
    obtain ⟨cs, hcs, hal⟩ := L.code
    obtain ⟨va, hva, a, rfl, hx⟩ := hal.2 _ _ hri
    have hok := L.ok _ _ hri
    have hu := hu_of hr
    refine ⟨_, pss_cons (ps_set (i := 3) sc_onward.nd rfl (.inl rfl) (pe_ix ix_list (pv 0) (pv 2) (fun _ _ => rfl)))
      (pss_cons (ps_set (i := 4) sc_onward.nd rfl (.inl rfl) (pe_lst pa_nil))
      (pss_cons (ps_set (i := 5) sc_onward.nd rfl (.inl rfl) (pe_lst pa_nil))
      (pss_cons (ps_for PassesOwn.never rfl (pi_list (pe_methR (pv 3) (T.clR r) (T.me_goes r) (ok_goes T r) (hr.mono (by decide)) pass0 (pa_cons (pv 2) pa_nil))) (pg_name (i := 6) sc_onward.nd rfl (.inl rfl))
        (pss_cons (ps_set (i := 7) sc_onward.nd rfl (.inl rfl) pe_str)
        (pss_cons (ps_if (pt_cmpR op_lt (pv 6) (pe_callB call_len_seq rfl T.fr_len (by decide +kernel) (pa_cons (pv 0) pa_nil)) (nomark _)) (pss_one (ps_set (i := 7) sc_onward.nd rfl (.inl rfl) (pe_f (r_unlike T) hr rfl T.gl_unlike T.kp_unlike pass0 (pa_cons (pv 3) (pa_cons (pe_ix ix_list (pe_fld (pv 1) rfl) (pv 2) (fun _ _ => rfl)) (pa_cons (pe_ix ix_list (pe_fld (pv 1) rfl) (pv 6) (fun _ _ => rfl)) pa_nil)))))) pss_nil)
        (pss_cons (ps_if (PW.pt (pw_and (pt_cmpR op_notN (pv 7) pe_non (nomark _)) (pw_and1 (pt_cmpR op_notIn_seq (pv 6) (pv 5) (by rfl))))) (pss_one (ps_expr (pe_bm PySem.F.plainAttrs_list PySem.F.slot_list_append PySem.F.type_list_append mt_append (pv 4) (pa_cons (pe_tup (pa_cons (pv 2) (pa_cons (pv 6) (pa_cons (pv 7) pa_nil)))) pa_nil)))) pss_nil)
        (pss_one (ps_expr (pe_bm PySem.F.plainAttrs_list PySem.F.slot_list_append PySem.F.type_list_append mt_append (pv 5) (pa_cons (pv 6) pa_nil))))))))
      (pss_cons (ps_if (pt_val (pe_callB call_isi rfl T.fr_isinstance (by decide +kernel) (pa_cons (pv 3) (pa_cons (pe_glob (v := V.ref (ga K "Call")) rfl T.gl_Call rfl) pa_nil))))
        (pss_one (ps_if (pt_cmpR op_ge (pe_fld (pv 3) rfl) (pe_callB call_len_seq rfl T.fr_len (by decide +kernel) (pa_cons (pv 0) pa_nil)) (nomark _))
          (pss_one (ps_expr (pe_bm PySem.F.plainAttrs_list PySem.F.slot_list_append PySem.F.type_list_append mt_append (pv 4) (pa_cons (pe_tup (pa_cons (pv 2) (pa_cons (pe_fld (pv 3) rfl) (pa_cons pe_str pa_nil)))) pa_nil))))
          (pss_one (ps_if (pt_cmpR (op_neD hr.units) (pe_ix ix_list (pe_fld (pv 1) rfl) (pe_fld (pv 3) rfl) (fun _ _ => rfl)) (pe_glob (v := V.ref (ga K "START")) rfl T.gl_START rfl) (nomark _))
            (pss_one (ps_expr (pe_bm PySem.F.plainAttrs_list PySem.F.slot_list_append PySem.F.type_list_append mt_append (pv 4) (pa_cons (pe_tup (pa_cons (pv 2) (pa_cons (pe_fld (pv 3) rfl) (pa_cons pe_str pa_nil)))) pa_nil)))) pss_nil)))) pss_nil)
      (pss_one (ps_ret (pv 4))))))), ?_⟩
    refine ⟨_, rfl, _, rfl, c, cs, _, _, rfl, rfl, sl hcs, at_nat rfl hva, ?_⟩
    refine ⟨(by show 0 ≤ sizeLine; decide), fun fo hfo => ?_⟩
    have s1 := Same.new (o := .lst []) hfo
    refine ⟨(by show 0 ≤ sizeLine; decide), fun kl hkl => ?_⟩
    have s2 := Same.new (o := .lst []) hkl
    have hkl0 := Same.back s1 hkl
    have nfk : fo ≠ kl := ne_of_none (upd_same (H := H)) hkl
    have s12 := Same.trans s1 s2
    obtain ⟨dx, hx'⟩ := RowAt.same s12 hx
    refine ⟨_, rfl, a, dx, _, rfl, hx', no_goes r, _, rfl, a, i, rfl, ⟨dx, hx'⟩, fun H3 gl s3 hgl0 hgl => ?_⟩
    have s123 := Same.trans s12 s3
    have ngf : gl ≠ fo := Ne.symm (ne_of_none (s2 _ _ upd_same) hgl0)
    have ngk : gl ≠ kl := Ne.symm (ne_of_none upd_same hgl0)
    refine ⟨gl, rfl, ⟨_, SqL.of hgl⟩, ?_⟩
    refine for_list (K := K) (a := gl) (xs := ns (goesN r i)) (fun n σ H' => ∃ (xs : List V) (kk pp : Option V), σ = [some (.ref c), some (.ref tb), some (vi i), some (.ref a), some (.ref fo), some (.ref kl), pp, kk] ∧ Same H H' ∧ H' fo = some (.lst xs) ∧ xs.length ≤ n ∧ H' kl = some (.lst (ns ((goesN r i).take n))) ∧
      H' gl = some (.lst (ns (goesN r i))) ∧ (xs = [] → ∀ j ∈ (goesN r i).take n, Follows r e es j)) ⟨[], none, none, rfl, s123, s3 _ _ (s2 _ _ upd_same), Nat.le_refl _, s3 _ _ upd_same, hgl, fun _ j hj => by simp at hj⟩ (fun n σ H' _ ⟨_, _, _, _, _, _, _, _, h, _⟩ => SqL.of h) (fun n x σ H' hxn ⟨xs, kk, pp, eσ, sm, hfx, hxl, hkx, hgx, inv⟩ => ?_) (fun σ H' ⟨xs, kk, pp, eσ, sm, hfx, hxl, hkx, hgx, inv⟩ => ?_)
    · subst eσ
      obtain ⟨j, hj, rfl⟩ : ∃ j, (goesN r i)[n]? = some j ∧ x = vi j := by
        rw [List.getElem?_map] at hxn
        cases q0 : (goesN r i)[n]? with
        | none => rw [q0] at hxn; cases hxn
        | some s0 => rw [q0] at hxn; cases hxn; exact ⟨s0, rfl, rfl⟩
      have L' := L.kp (Same.kp sm)
      obtain ⟨dxr, hxr⟩ := RowAt.same sm hx
      obtain ⟨cs', hcs', hal'⟩ := L'.code
      obtain ⟨dxt, el, dd, ys, htb, hye, halE, hdd⟩ := L'.tab
      have hkx2 : (goesN r i).take (n + 1) = (goesN r i).take n ++ [j] := by
        rw [List.take_add_one, hj]
        rfl
      refine seq_join (fun σ H2 => H' = H2 ∧ σ = [some (.ref c), some (.ref tb), some (vi i), some (.ref a), some (.ref fo), some (.ref kl), some (vi j), some (.str "row")]) (fun σ2 H2 ⟨eH, eσ⟩ => ?_) (fun N rest => rest _ _ ⟨rfl, rfl⟩)
      subst eH eσ
      refine seq_join (fun σ H2 => H' = H2 ∧ ∃ u : V, σ = [some (.ref c), some (.ref tb), some (vi i), some (.ref a), some (.ref fo), some (.ref kl), some (vi j), some u] ∧ (u = .non → Follows r e es j)) (fun σ2 H2 ⟨eH, u, eσ, hu2⟩ => ?_) (fun N rest => ?_)
      · subst eH eσ
        refine seq_join (fun σ H2 => ∃ xs' : List V, σ = [some (.ref c), some (.ref tb), some (vi i), some (.ref a), some (.ref fo), some (.ref kl), some (vi j), some u] ∧ Same H H2 ∧ H2 fo = some (.lst xs') ∧ xs'.length ≤ n + 1 ∧ H2 kl = some (.lst (ns ((goesN r i).take n))) ∧
          H2 gl = some (.lst (ns (goesN r i))) ∧ (xs' = [] → ∀ j ∈ (goesN r i).take (n + 1), Follows r e es j)) (fun σ2 H2 ⟨xs', eσ, sm', hfx', hxl', hkx', hgx', inv'⟩ => ?_) (fun N rest => ?_)
        · subst eσ
          refine ⟨_, rfl, .inl ⟨rfl, _, SqL.of hkx'⟩, _, rfl, kl, _, _, rfl, rfl, hkx', lt_size (by have := goes_len r i; simp; omega), ?_⟩
          refine ⟨xs', _, _, rfl, Same.mut sm' hkl0, by rw [upd_ne nfk]; exact hfx', hxl', ?_, by rw [upd_ne ngk]; exact hgx', inv'⟩
          rw [upd_same, hkx2]
          simp [ns]
        · refine ⟨_, rfl, rfl, _, rfl, ?_⟩
          by_cases cu : u = .non
          · rw [decide_eq_true cu]
            refine iteF (rest _ _ ⟨xs, rfl, sm, hfx, by omega, hkx, hgx, fun e0 q hq => ?_⟩)
            rw [hkx2] at hq
            rcases List.mem_append.mp hq with hq | hq
            · exact inv e0 q hq
            · rw [List.mem_singleton.mp hq]
              exact hu2 cu
          · rw [decide_eq_false cu]
            refine iteT ⟨_, rfl, _, rfl, kl, _, rfl, .inl (SqL.of hkx), rfl, flat_ns _, _, rfl, ?_⟩
            cases hin : inV (vi j) (ns ((goesN r i).take n)) with
            | true =>
              refine iteF (rest _ _ ⟨xs, rfl, sm, hfx, by omega, hkx, hgx, fun e0 q hq => ?_⟩)
              rw [hkx2] at hq
              rcases List.mem_append.mp hq with hq | hq
              · exact inv e0 q hq
              · rw [List.mem_singleton.mp hq]
                exact inv e0 j ((inV_ns _ _).mp hin)
            | false =>
              refine iteT ⟨_, rfl, .inl ⟨rfl, _, SqL.of hfx⟩, _, rfl, _, rfl, _, rfl, (by show 3 ≤ sizeLine; decide), fun y hy => ?_⟩
              have s5 := Same.new (o := .tup [vi i, vi j, u]) hy
              refine ⟨fo, _, _, rfl, rfl, s5 _ _ hfx, lt_size (by have := goes_len r i; have := (List.getElem?_eq_some_iff.mp hj).1; omega), rest _ _ ⟨xs ++ [.ref y], rfl, Same.mut (Same.trans sm s5) hfo, upd_same, by simp; omega, ?_, ?_, fun e0 => pref_nil e0⟩⟩
              · rw [upd_ne (Ne.symm nfk)]
                exact s5 _ _ hkx
              · rw [upd_ne ngf]
                exact s5 _ _ hgx
      · refine ⟨_, rfl, _, rfl, c, cs', rfl, .inl (sl hcs'), _, _, rfl, rfl, _, rfl, ?_⟩
        by_cases cj : j < rs.length
        · rw [decide_eq_true (show (j : Int) < (cs'.length : Int) by have := hal'.1; omega)]
          obtain ⟨ve, hve, heV⟩ := halE.2 _ _ hei
          obtain ⟨vo', hvo, hoV⟩ := halE.2 j _ (List.getElem?_eq_getElem (show j < es.length by omega))
          refine iteT ⟨_, rfl, _, rfl, tb, _, dxt, _, _, rfl, htb, T.cl_Table, T.no_Table_entries, rfl, _, rfl, el, ys, _, _, rfl, rfl, sl hye, at_nat rfl hve, _, rfl, tb, _, dxt, _, _, rfl, htb, T.cl_Table, T.no_Table_entries, rfl, _, rfl, el, ys, _, _, rfl, rfl, sl hye, at_nat rfl hvo,
            a, ve, vo', r, e, _, rfl, ⟨dxr, hxr⟩, hok, heV, hoV, hown, fun z hz => rest _ _ ⟨rfl, z, rfl, fun e0 => fol_of (List.getElem?_eq_getElem (show j < es.length by omega)) (hz.mp e0)⟩⟩
        · rw [decide_eq_false (show ¬ (j : Int) < (cs'.length : Int) by have := hal'.1; omega)]
          exact iteF (rest _ _ ⟨rfl, _, rfl, fun e0 => by cases e0⟩)
    · subst eσ
      have hfull : (goesN r i).take (ns (goesN r i)).length = goesN r i := by rw [List.length_map, List.take_length]
      rw [hfull] at inv
      have L' := L.kp (Same.kp sm)
      obtain ⟨dxr, hxr⟩ := RowAt.same sm hx
      obtain ⟨cs', hcs', hal'⟩ := L'.code
      obtain ⟨dxt, el, dd, ys, htb, hye, halE, hdd⟩ := L'.tab
      have hxl3 : xs.length ≤ 2 := by
        have h1 := goes_len r i
        rw [List.length_map] at hxl
        omega
      dsimp only
      refine seq_join (t := tIfS _ _ _) (fun σ H2 => ∃ xs' : List V, σ = [some (.ref c), some (.ref tb), some (vi i), some (.ref a), some (.ref fo), some (.ref kl), pp, kk] ∧ Same H H2 ∧ H2 fo = some (.lst xs') ∧ xs'.length ≤ 3 ∧ (xs' = [] → (∀ j ∈ goesN r i, Follows r e es j) ∧ ∀ t, r = .call t → es[t]? = some (some START))) (fun σ2 H2 ⟨xs', eσ, sm', hfx', hxl', inv'⟩ => ?_) (fun N rest => ?_)
      · subst eσ
        exact ⟨_, rfl, k _ fo xs' sm' hfo hfx' hxl' inv'⟩
      · refine ⟨_, rfl, _, _, _, _, _, rfl, .own _, T.tyr ⟨dxr, hxr⟩, T.kitCall r, _, rfl, ?_⟩
        cases r with
        | call t =>
          refine iteT ⟨_, rfl, a, _, dxr, _, _, rfl, hxr, T.cl_Call, T.no_Call_target, rfl, _, rfl, c, cs', rfl, .inl (sl hcs'), _, _, rfl, rfl, _, rfl, ?_⟩
          by_cases ct : rs.length ≤ t
          · rw [decide_eq_true (show (cs'.length : Int) ≤ (t : Int) by have := hal'.1; omega)]
            refine iteT ⟨_, rfl, .inl ⟨rfl, _, SqL.of hfx⟩, _, rfl, _, rfl, a, _, dxr, _, _, rfl, hxr, T.cl_Call, T.no_Call_target, rfl, (by show 3 ≤ sizeLine; decide), fun y hy => ?_⟩
            have s5 := Same.new (o := .tup [vi i, vi t, .str "row"]) hy
            exact ⟨fo, _, _, rfl, rfl, s5 _ _ hfx, lt_size (by omega), rest _ _ ⟨xs ++ [.ref y], rfl, Same.mut (Same.trans sm s5) hfo, upd_same, by simp; omega, fun e0 => pref_nil e0⟩⟩
          · rw [decide_eq_false (show ¬ (cs'.length : Int) ≤ (t : Int) by have := hal'.1; omega)]
            obtain ⟨vt, hvt, htV⟩ := halE.2 t _ (List.getElem?_eq_getElem (show t < es.length by omega))
            refine iteF ⟨_, rfl, tb, _, dxt, _, _, rfl, htb, T.cl_Table, T.no_Table_entries, rfl, _, rfl, a, _, dxr, _, _, rfl, hxr, T.cl_Call, T.no_Call_target, rfl, el, ys, _, _, rfl, rfl, sl hye, at_nat rfl hvt, entD _, entD (some START), entD_dp htV, entD_dp (T.start H'), entD_shaped _, entD_shaped _, _, rfl, ?_⟩
            by_cases ce : es[t]'(show t < es.length by omega) = some START
            · rw [(entD_eqv _ _).mpr ce]
              refine iteF (rest _ _ ⟨xs, rfl, sm, hfx, by omega, fun e0 => ⟨inv e0, fun t' et => ?_⟩⟩)
              cases et
              rw [List.getElem?_eq_getElem (show t < es.length by omega), ce]
            · rw [show PyData.eqv (entD (es[t]'(show t < es.length by omega))) (entD (some START)) = false from Bool.eq_false_iff.mpr (fun z => ce ((entD_eqv _ _).mp z))]
              refine iteT ⟨_, rfl, .inl ⟨rfl, _, SqL.of hfx⟩, _, rfl, _, rfl, a, _, dxr, _, _, rfl, hxr, T.cl_Call, T.no_Call_target, rfl, (by show 3 ≤ sizeLine; decide), fun y hy => ?_⟩
              have s5 := Same.new (o := .tup [vi i, vi t, .str "start"]) hy
              exact ⟨fo, _, _, rfl, rfl, s5 _ _ hfx, lt_size (by omega), rest _ _ ⟨xs ++ [.ref y], rfl, Same.mut (Same.trans sm s5) hfo, upd_same, by simp; omega, fun e0 => pref_nil e0⟩⟩
        | _ => exact iteF (rest _ _ ⟨xs, rfl, sm, hfx, by omega, fun e0 => ⟨inv e0, fun t et => (by cases et)⟩⟩)
end
end Fb

set_option Elab.async false
set_option linter.all false
set_option maxRecDepth 100000
set_option maxHeartbeats 4000000
set_option exponentiation.threshold 5000
namespace Fb
open PySem PySem.Spec PyProof.Rows L2
open He (ga ma)
theorem isCall_iff (r : RowD) : isCall r = true ↔ ∃ t, r = .call t := by
  cases r with
  | call t => exact ⟨fun _ => ⟨t, rfl⟩, fun _ => rfl⟩
  | _ => exact ⟨fun z => (by cases z), fun ⟨_, z⟩ => (by cases z)⟩
section
variable {P : Program} {w : World} {K : PySem.W.Frag} {mg : Str → Option Value} {base : Heap}
/-! ### landed -/
def LandOk (rs : List RowD) (es : List (Option Ent)) (i j : Nat) : Prop := (∃ t, rs[i]? = some (.call t)) ∧ ∀ r e, rs[i]? = some r → es[i]? = some (some e) → OwnOk r e → Follows r e es j
def spLanded (K : PySem.W.Frag) : Sp := fun vs H Q _ => ∃ (c tb : Addr) (i j : Nat) (rs : List RowD) (es : List (Option Ent)) (ls : List (Nat × Nat)), vs = [.ref c, .ref tb, vi i] ∧ Lay K H c tb rs es ls ∧ es.length = rs.length ∧ landOf ls i = some j ∧
  ∀ H' p xs, Same H H' → H p = none → H' p = some (.lst xs) → xs.length ≤ 1 → (xs = [] → LandOk rs es i j) → Q (.ref p) H'
theorem r_landed (T : Tx K mg) : FnR P w K mg base CX0 5 (ga K "landed") (spLanded K) := by
  refine fnr0 T.F_landed sc_landed (fun vs H Q E h => ?_) hb_landed (fun cdv A outer s H vs Q E hr h => ?_)
  · obtain ⟨c, tb, i, j, rs, es, ls, rfl, _⟩ := h
    rfl
  · obtain ⟨c, tb, i, j, rs, es, ls, rfl, L, hel, hland, k⟩ := h
    obtain ⟨cs, hcs, hal⟩ := L.code
    obtain ⟨dxt, el, dd, ys, htb, hye, halE, hdd⟩ := L.tab
    have hu := hu_of hr
    -- one complaint
    have one : ∀ (H1 : Hp) (s : Str), Same H H1 → ∀ p, H1 p = none → ∀ q, upd H1 p (.tup [vi i, vi j, .str s]) q = none → Q (.ref q) (upd (upd H1 p (.tup [vi i, vi j, .str s])) q (.lst [.ref p])) := fun H1 s s1 p hp q hq =>
      k _ q [.ref p] (Same.trans s1 (Same.trans (Same.new hp) (Same.new hq))) (Same.back s1 (Same.back (Same.new hp) hq)) upd_same (Nat.le_refl _) (fun z => by cases z)
    refine ⟨_, pss_cons (ps_set (i := 3) sc_landed.nd rfl (.inl rfl) (pe_dget hu (pe_fld (pv 1) rfl) (pv 2) (fun _ _ => rfl)))
      (pss_cons (ps_if (PW.pt (pw_or (pt_cmpR op_lt (pv 2) pe_int (nomark _)) (pw_or (pt_cmpR op_ge (pv 2) (pe_callB call_len_seq rfl T.fr_len (by decide +kernel) (pa_cons (pv 0) pa_nil)) (nomark _))
          (pw_or1 (pt_not (pt_val (pe_callB call_isi rfl T.fr_isinstance (by decide +kernel) (pa_cons (pe_ix ix_list (pv 0) (pv 2) (fun _ _ => rfl)) (pa_cons (pe_glob (v := V.ref (ga K "Call")) rfl T.gl_Call rfl) pa_nil)))))))))
          (pss_one (ps_ret (pe_lst (pa_cons (pe_tup (pa_cons (pv 2) (pa_cons (pv 3) (pa_cons pe_str pa_nil)))) pa_nil)))) pss_nil)
      (pss_cons (ps_set (i := 4) sc_landed.nd rfl (.inl rfl) (pe_ix ix_list (pe_fld (pv 1) rfl) (pv 2) (fun _ _ => rfl)))
      (pss_cons (ps_if (PW.pt (pw_or (pt_cmpR op_isN (pv 4) pe_non (nomark _)) (pw_or1 (pt_cmpR op_notN (pe_f (r_own T) (hr.mono (by decide)) rfl T.gl_own_complaint T.kp_own_complaint pass0 (pa_cons (pe_ix ix_list (pv 0) (pv 2) (fun _ _ => rfl)) (pa_cons (pv 4) pa_nil))) pe_non (nomark _)))))
          (pss_one (ps_ret (pe_lst pa_nil))) pss_nil)
      (pss_cons (ps_set (i := 5) sc_landed.nd rfl (.inl rfl) pe_str)
      (pss_cons (ps_if (pt_chain op_le op_lt pe_int (pv 3) (pe_callB call_len_seq rfl T.fr_len (by decide +kernel) (pa_cons (pv 0) pa_nil))) (pss_one (ps_set (i := 5) sc_landed.nd rfl (.inl rfl) (pe_f (r_unlike T) hr rfl T.gl_unlike T.kp_unlike pass0 (pa_cons (pe_ix ix_list (pv 0) (pv 2) (fun _ _ => rfl)) (pa_cons (pv 4) (pa_cons (pe_ix ix_list (pe_fld (pv 1) rfl) (pv 3) (fun _ _ => rfl)) pa_nil)))))) pss_nil)
      (pss_cons (ps_if (pt_cmpR op_isN (pv 5) pe_non (nomark _)) (pss_one (ps_ret (pe_lst pa_nil))) pss_nil)
      (pss_one (ps_ret (pe_lst (pa_cons (pe_tup (pa_cons (pv 2) (pa_cons (pv 3) (pa_cons (pv 5) pa_nil)))) pa_nil)))))))))), ?_⟩
    refine ⟨_, rfl, tb, _, dxt, _, _, rfl, htb, T.cl_Table, T.no_Table_landings, rfl, _, rfl, dd, vi j, rfl, ?_, ?_⟩
    · have := DGet.k (k := Sum.inl (i : Int)) hdd
      rw [valV_ls, hland] at this
      exact this
    refine ⟨_, rfl, _, _, rfl, rfl, _, rfl, ?_⟩
    rw [decide_eq_false (show ¬ (i : Int) < 0 by omega)]
    refine iteF ⟨_, rfl, _, rfl, c, cs, rfl, .inl (sl hcs), _, _, rfl, rfl, _, rfl, ?_⟩
    by_cases ci : i < rs.length
    · rw [decide_eq_false (show ¬ (cs.length : Int) ≤ (i : Int) by have := hal.1; omega)]
      have hri : rs[i]? = some rs[i] := List.getElem?_eq_getElem ci
      generalize rs[i] = r at hri
      obtain ⟨va, hva, a, rfl, hx⟩ := hal.2 _ _ hri
      refine iteF ⟨_, rfl, _, rfl, c, cs, _, _, rfl, rfl, sl hcs, at_nat rfl hva, _, _, _, _, _, rfl, .own _, T.tyr hx, T.kitCall r, _, rfl, ?_⟩
      cases hc : isCall r with
      | false => exact iteT ⟨_, rfl, _, rfl, (by show 3 ≤ sizeLine; decide), fun p hp => ⟨(by show 1 ≤ sizeLine; decide), fun q hq => one H "call" Same.rfl p hp q hq⟩⟩
      | true =>
        have hcall : ∃ t, rs[i]? = some (.call t) := by
          obtain ⟨t, rfl⟩ := (isCall_iff r).mp hc
          exact ⟨t, hri⟩
        have hei : es[i]? = some (es[i]'(by omega)) := List.getElem?_eq_getElem (by omega)
        generalize es[i]'(by omega) = oe at hei
        obtain ⟨ve, hve, heV⟩ := halE.2 _ _ hei
        refine iteF ⟨_, rfl, tb, _, dxt, _, _, rfl, htb, T.cl_Table, T.no_Table_entries, rfl, _, rfl, el, ys, _, _, rfl, rfl, sl hye, at_nat rfl hve, ?_⟩
        refine ⟨_, rfl, rfl, _, rfl, ?_⟩
        cases oe with
        | none =>
          cases heV
          refine iteT ⟨(by show 0 ≤ sizeLine; decide), fun q hq => k _ q [] (Same.new hq) hq upd_same (by simp) (fun _ => ⟨hcall, fun r' e' _ he' => ?_⟩)⟩
          rw [hei] at he'
          cases he'
        | some e =>
          obtain ⟨t, q, rfl, ht, hq⟩ := heV
          refine iteF ⟨_, rfl, _, rfl, c, cs, _, _, rfl, rfl, sl hcs, at_nat rfl hva, _, rfl, a, _, r, e, rfl, hx, L.ok _ _ hri, ⟨t, q, rfl, ht, hq⟩, fun u H1 s1 hu2 => ⟨rfl, _, rfl, ?_⟩⟩
          by_cases cu : u = .non
          · rw [decide_eq_true cu]
            have hown := hu2.mp cu
            refine iteF ?_
            dsimp only [tNext]
            refine seq_join (t := tAsg _ _) (fun σ H2 => H1 = H2 ∧ σ = [some (.ref c), some (.ref tb), some (vi i), some (vi j), some (.ref t), some (.str "row")]) (fun σ2 H2 ⟨eH, eσ⟩ => ?_) (fun N rest => ?_)
            rotate_left
            · exact rest _ _ ⟨rfl, rfl⟩
            subst eH eσ
            have L' := L.kp (Same.kp s1)
            obtain ⟨cs', hcs', hal'⟩ := L'.code
            obtain ⟨dxt', el', dd', ys', htb', hye', halE', hdd'⟩ := L'.tab
            obtain ⟨va', hva', a', rfl, hx'⟩ := hal'.2 _ _ hri
            refine seq_join (t := tIfS _ _ _) (fun σ H2 => H1 = H2 ∧ ∃ z : V, σ = [some (.ref c), some (.ref tb), some (vi i), some (vi j), some (.ref t), some z] ∧ (z = .non → Follows r e es j)) (fun σ2 H2 ⟨eH, z, eσ, hz⟩ => ?_) (fun N rest => ?_)
            · subst eH eσ
              refine ⟨_, rfl, rfl, _, rfl, ?_⟩
              by_cases cz : z = .non
              · rw [decide_eq_true cz]
                refine iteT ⟨(by show 0 ≤ sizeLine; decide), fun q hq => k _ q [] (Same.trans s1 (Same.new hq)) (Same.back s1 hq) upd_same (by simp) (fun _ => ⟨hcall, fun r' e' hr' he' _ => ?_⟩)⟩
                rw [hri] at hr'
                rw [hei] at he'
                cases hr'
                cases he'
                exact hz cz
              · rw [decide_eq_false cz]
                refine iteF ⟨_, rfl, _, rfl, _, rfl, (by show 3 ≤ sizeLine; decide), fun p hp => ⟨(by show 1 ≤ sizeLine; decide), fun q hq => ?_⟩⟩
                exact k _ q [.ref p] (Same.trans s1 (Same.trans (Same.new hp) (Same.new hq))) (Same.back s1 (Same.back (Same.new hp) hq)) upd_same (Nat.le_refl _) (fun z => by cases z)
            · refine ⟨_, rfl, _, _, rfl, rfl, _, rfl, ?_⟩
              rw [decide_eq_true (show (0 : Int) ≤ (j : Int) by omega)]
              refine iteT ⟨_, rfl, c, cs', rfl, .inl (sl hcs'), _, _, rfl, rfl, _, rfl, ?_⟩
              by_cases cj : j < rs.length
              · rw [decide_eq_true (show (j : Int) < (cs'.length : Int) by have := hal'.1; omega)]
                obtain ⟨vo', hvo, hoV⟩ := halE'.2 j _ (List.getElem?_eq_getElem (show j < es.length by omega))
                refine iteT ⟨_, rfl, _, rfl, c, cs', _, _, rfl, rfl, sl hcs', at_nat rfl hva', _, rfl, _, rfl, tb, _, dxt', _, _, rfl, htb', T.cl_Table, T.no_Table_entries, rfl, _, rfl, el', ys', _, _, rfl, rfl, sl hye', at_nat rfl hvo,
                  a', _, vo', r, e, _, rfl, hx', L.ok _ _ hri, (Same.kp s1).ent ⟨t, q, rfl, ht, hq⟩, hoV, hown, fun z hz => rest _ _ ⟨rfl, z, rfl, fun e0 => fol_of (List.getElem?_eq_getElem (show j < es.length by omega)) (hz.mp e0)⟩⟩
              · rw [decide_eq_false (show ¬ (j : Int) < (cs'.length : Int) by have := hal'.1; omega)]
                exact iteF (rest _ _ ⟨rfl, _, rfl, fun e0 => by cases e0⟩)
          · rw [decide_eq_false cu]
            refine iteT ⟨(by show 0 ≤ sizeLine; decide), fun q hq => k _ q [] (Same.trans s1 (Same.new hq)) (Same.back s1 hq) upd_same (by simp) (fun _ => ⟨hcall, fun r' e' hr' he' ho' => ?_⟩)⟩
            rw [hri] at hr'
            rw [hei] at he'
            cases hr'
            cases he'
            exact absurd (hu2.mpr ho') cu
    · rw [decide_eq_true (show (cs.length : Int) ≤ (i : Int) by have := hal.1; omega)]
      exact iteT ⟨_, rfl, _, rfl, (by show 3 ≤ sizeLine; decide), fun p hp => ⟨(by show 1 ≤ sizeLine; decide), fun q hq => one H "call" Same.rfl p hp q hq⟩⟩
end
end Fb

set_option Elab.async false
set_option linter.all false
set_option maxRecDepth 100000
set_option maxHeartbeats 4000000
set_option exponentiation.threshold 5000
namespace Fb
open PySem PySem.Spec PyProof.Rows L2
open He (ga ma)
theorem landOf_key {ls : List (Nat × Nat)} {i j : Nat} (h : landOf ls i = some j) : (i : Int) ∈ ls.map (fun q => (q.1 : Int)) := by
  exact List.mem_map.mpr ⟨(i, j), landOf_mem h, rfl⟩
theorem key_landOf {ls : List (Nat × Nat)} {z : Int} (h : z ∈ ls.map (fun q => (q.1 : Int))) : ∃ i j : Nat, z = (i : Int) ∧ landOf ls i = some j := by
  obtain ⟨q, hq, rfl⟩ := List.mem_map.mp h
  unfold landOf
  cases e : ls.find? fun p => decide (p.1 = q.1) with
  | none =>
    have := List.find?_eq_none.mp e q hq
    simp at this
  | some p => exact ⟨q.1, p.2, rfl, by simp [e]⟩
section
variable {P : Program} {w : World} {K : PySem.W.Frag} {mg : Str → Option Value} {base : Heap}
/-! ### checked -/
def RowGood (rs : List RowD) (es : List (Option Ent)) (i : Nat) : Prop := ∀ r e, rs[i]? = some r → es[i]? = some (some e) → OwnOk r e ∧ (∀ j ∈ goesN r i, Follows r e es j) ∧ ∀ t, r = .call t → es[t]? = some (some START)
def spChecked (K : PySem.W.Frag) : Sp := fun vs H Q _ => ∃ (c tb : Addr) (rs : List RowD) (es : List (Option Ent)) (ls : List (Nat × Nat)), vs = [.ref c, .ref tb] ∧ Lay K H c tb rs es ls ∧ ls.length < 64 ∧
  ∀ H' p xs, Same H H' → H p = none → H' p = some (.lst xs) → (xs = [] → Good rs es ls) → Q (.ref p) H'
def Chk1 (H : Hp) (c tb fo : Addr) (rs : List RowD) (es : List (Option Ent)) : Nat → L2.St → Hp → Prop := fun n σ H' => ∃ (xs : List V) (s3 s4 s5 s6 : Option V), σ = [some (.ref c), some (.ref tb), some (.ref fo), s3, s4, s5, s6] ∧ Same H H' ∧ H' fo = some (.lst xs) ∧ xs.length ≤ 3 * n + 1 ∧
  (xs = [] → (rs ≠ [] → es[0]? = some (some START)) ∧ ∀ i, i < n → RowGood rs es i)
def Chk2 (H : Hp) (c tb fo : Addr) (rs : List RowD) (es : List (Option Ent)) (ls : List (Nat × Nat)) (ys : List Int) : Nat → L2.St → Hp → Prop := fun n σ H' => ∃ (xs : List V) (s3 s4 s5 s6 : Option V), σ = [some (.ref c), some (.ref tb), some (.ref fo), s3, s4, s5, s6] ∧ Same H H' ∧ H' fo = some (.lst xs) ∧ xs.length ≤ 3 * 2000 + 1 + n ∧
  (xs = [] → (rs ≠ [] → es[0]? = some (some START)) ∧ (∀ i, RowGood rs es i) ∧ ∀ (m i j : Nat), m < n → ys[m]? = some (i : Int) → landOf ls i = some j → LandOk rs es i j)
theorem r_checked (T : Tx K mg) : FnR P w K mg base CX0 6 (ga K "checked") (spChecked K) := by
  refine fnr0 T.F_checked sc_checked (fun vs H Q E h => ?_) hb_checked (fun cdv A outer s H vs Q E hr h => ?_)
  · obtain ⟨c, tb, rs, es, ls, rfl, _⟩ := h
    rfl
  · obtain ⟨c, tb, rs, es, ls, rfl, L, hls, k⟩ := h
    obtain ⟨cs, hcs, hal⟩ := L.code
    obtain ⟨dxt, el, dd, ys, htb, hye, halE, hdd⟩ := L.tab
    have hu := hu_of hr
    refine ⟨_, pss_cons (ps_if (pt_cmpR op_ne (pe_callB call_len_seq rfl T.fr_len (by decide +kernel) (pa_cons (pe_fld (pv 1) rfl) pa_nil)) (pe_callB call_len_seq rfl T.fr_len (by decide +kernel) (pa_cons (pv 0) pa_nil)) (nomark _))
        (pss_one (ps_ret (pe_lst (pa_cons (pe_tup (pa_cons (pe_un un_neg pe_int) (pa_cons (pe_un un_neg pe_int) (pa_cons pe_str pa_nil)))) pa_nil)))) pss_nil)
      (pss_cons (ps_set (i := 2) sc_checked.nd rfl (.inl rfl) (pe_lst pa_nil))
      (pss_cons (ps_if (PW.pt (pw_and (pt_cmpR (op_neNil (Nat.lt_of_succ_lt hu)) (pv 0) (pe_lst pa_nil) (nomark _)) (pw_and1 (pt_cmpR (op_neD hr.units) (pe_ix ix_list (pe_fld (pv 1) rfl) pe_int (fun _ _ => rfl)) (pe_glob (v := V.ref (ga K "START")) rfl T.gl_START rfl) (nomark _)))))
        (pss_one (ps_expr (pe_bm PySem.F.plainAttrs_list PySem.F.slot_list_append PySem.F.type_list_append mt_append (pv 2) (pa_cons (pe_tup (pa_cons (pe_un un_neg pe_int) (pa_cons pe_int (pa_cons pe_str pa_nil)))) pa_nil)))) pss_nil)
      (pss_cons (ps_for PassesOwn.never rfl (pi_enum rfl T.fr_enumerate (pa_cons (pv 0) pa_nil)) (pg_tup rfl (pgs_cons (pg_name (i := 3) sc_checked.nd rfl (.inl rfl)) (pgs_cons (pg_name (i := 4) sc_checked.nd rfl (.inl rfl)) pgs_nil)))
        (pss_cons (ps_set (i := 5) sc_checked.nd rfl (.inl rfl) (pe_ix ix_list (pe_fld (pv 1) rfl) (pv 3) (fun _ _ => rfl)))
        (pss_one (ps_if (pt_cmpR op_notN (pv 5) pe_non (nomark _))
          (pss_cons (ps_set (i := 6) sc_checked.nd rfl (.inl rfl) (pe_f (r_own T) (hr.mono (by decide)) rfl T.gl_own_complaint T.kp_own_complaint pass0 (pa_cons (pv 4) (pa_cons (pv 5) pa_nil))))
          (pss_one (ps_if (pt_cmpR op_notN (pv 6) pe_non (nomark _))
            (pss_one (ps_expr (pe_bm PySem.F.plainAttrs_list PySem.F.slot_list_append PySem.F.type_list_append mt_append (pv 2) (pa_cons (pe_tup (pa_cons (pv 3) (pa_cons (pv 3) (pa_cons (pv 6) pa_nil)))) pa_nil))))
            (pss_one (ps_expr (pe_bm PySem.F.plainAttrs_list PySem.F.slot_list_extend PySem.F.type_list_extend mt_extend (pv 2) (pa_cons (pe_f (r_onward T) hr rfl T.gl_onward T.kp_onward pass0 (pa_cons (pv 0) (pa_cons (pv 1) (pa_cons (pv 3) pa_nil)))) pa_nil))))))) pss_nil))))
      (pss_cons (ps_for PassesOwn.never rfl (pi_list (pe_callB (call_sortedDI rfl) rfl T.fr_sorted (by decide +kernel) (pa_cons (pe_fld (pv 1) rfl) pa_nil))) (pg_name (i := 3) sc_checked.nd rfl (.inl rfl))
        (pss_one (ps_expr (pe_bm PySem.F.plainAttrs_list PySem.F.slot_list_extend PySem.F.type_list_extend mt_extend (pv 2) (pa_cons (pe_f (r_landed T) hr rfl T.gl_landed T.kp_landed pass0 (pa_cons (pv 0) (pa_cons (pv 1) (pa_cons (pv 3) pa_nil)))) pa_nil)))))
      (pss_one (ps_ret (pv 2))))))), ?_⟩
    refine ⟨_, rfl, tb, _, dxt, _, _, rfl, htb, T.cl_Table, T.no_Table_entries, rfl, el, ys, rfl, .inl (sl hye), _, rfl, c, cs, rfl, .inl (sl hcs), rfl, _, rfl, ?_⟩
    by_cases clen : es.length = rs.length
    · rw [decide_eq_true (show V.int (ys.length : Int) = V.int (cs.length : Int) by rw [halE.1, hal.1, clen])]
      refine iteF ⟨(by show 0 ≤ sizeLine; decide), fun fo hfo => ?_⟩
      have s1 := Same.new (o := .lst []) hfo
      dsimp only [gName, tNext]
      refine seq_join (t := tIfS _ _ _) (Chk1 H c tb fo rs es 0) (fun σ H1 inv => ?_) (fun N rest => ?_)
      · obtain ⟨xs, s3, s4, s5, s6, rfl, sm, hfx, hxl, inv⟩ := inv
        have L1 := L.kp (Same.kp sm)
        obtain ⟨cs1, hcs1, hal1⟩ := L1.code
        refine ⟨_, rfl, c, cs1, rfl, SqL.of hcs1, ?_⟩
        refine for_ite (K := K) (a := c) (xs := cs1) (fun n σ H' => Chk1 H c tb fo rs es n σ H' ∧ H' c = some (.lst cs1)) ⟨⟨xs, s3, s4, s5, s6, rfl, sm, hfx, hxl, inv⟩, hcs1⟩ (fun n σ H' ⟨_, h⟩ => SqL.of h) (fun n x Z σ H' hxn ⟨inv, hc2⟩ hZ => ?_) (fun σ H' ⟨inv, hc2⟩ => ?_)
        · obtain ⟨xs, s3, s4, s5, s6, rfl, sm, hfx, hxl, inv⟩ := inv
          have sZ := Same.new (o := .tup [vi n, x]) hZ
          have smZ := Same.trans sm sZ
          obtain ⟨r, hri, a, rfl, hxa⟩ := hal1.back hxn
          have hxa' : RowAt K (upd H' Z (.tup [vi n, .ref a])) a r := by
            obtain ⟨cs2, hcs2, hal2⟩ := (L.kp (Same.kp smZ)).code
            obtain ⟨va, hva, a', rfl, h⟩ := hal2.2 _ _ hri
            have : cs2 = cs1 := by
              rw [sZ _ _ hc2] at hcs2
              cases hcs2
              rfl
            rw [this, hxn] at hva
            cases hva
            exact h
          have hn := (List.getElem?_eq_some_iff.mp hri).1
          have hfew := L.few
          obtain ⟨dxt', el', dd', ys', htb', hye', halE', hdd'⟩ := (L.kp (Same.kp smZ)).tab
          have hei : es[n]? = some (es[n]'(by omega)) := List.getElem?_eq_getElem (by omega)
          generalize es[n]'(by omega) = oe at hei
          obtain ⟨ve, hve, heV⟩ := halE'.2 _ _ hei
          have hc3 := sZ _ _ hc2
          have hfx' := sZ _ _ hfx
          have step : ∀ i, i < n + 1 → (∀ i, i < n → RowGood rs es i) → RowGood rs es n → RowGood rs es i := fun i hi f g => by
            by_cases q : i < n
            · exact f i q
            · have : i = n := by omega
              rw [this]
              exact g
          refine ⟨Z, _, rfl, SqT.of upd_same, rfl, _, _, rfl, _, _, rfl, rfl, ?_⟩
          refine ⟨_, rfl, tb, _, dxt', _, _, rfl, htb', T.cl_Table, T.no_Table_entries, rfl, _, rfl, el', ys', _, _, rfl, rfl, sl hye', at_nat rfl hve, ?_⟩
          refine ⟨_, rfl, rfl, _, rfl, ?_⟩
          cases oe with
          | none =>
            cases heV
            refine iteF ⟨⟨xs, _, _, _, _, rfl, smZ, hfx', by omega, fun e0 => ⟨(inv e0).1, fun i hi => step i hi (inv e0).2 (fun r e _ he => ?_)⟩⟩, hc3⟩
            rw [hei] at he
            cases he
          | some e =>
            obtain ⟨t, q, rfl, ht, hq⟩ := heV
            refine iteT ⟨_, rfl, _, rfl, a, _, r, e, rfl, hxa', L.ok _ _ hri, ⟨t, q, rfl, ht, hq⟩, fun u H1 su hu2 => ?_⟩
            have smu := Same.trans smZ su
            refine ⟨_, rfl, rfl, _, rfl, ?_⟩
            by_cases cu : u = .non
            · rw [decide_eq_true cu]
              refine iteF ⟨_, rfl, .inl ⟨rfl, _, SqL.of (su _ _ hfx')⟩, _, rfl, _, rfl, _, rfl, c, tb, n, rs, es, ls, r, e, rfl, L.kp (Same.kp smu), clen, hri, hei, hu2.mp cu, fun H2 p zs s2 hpn hp hzl hz => ?_⟩
              have sm2 := Same.trans smu s2
              have hf2 := s2 _ _ (su _ _ hfx')
              refine ⟨fo, p, _, _, rfl, rfl, hf2, hp, le_size (by omega), ⟨xs ++ zs, _, _, _, _, rfl, Same.mut sm2 hfo, upd_same, by simp; omega, fun e0 => ?_⟩, ?_⟩
              · obtain ⟨e1, e2⟩ := List.append_eq_nil_iff.mp e0
                refine ⟨(inv e1).1, fun i hi => step i hi (inv e1).2 (fun r' e' hr' he' => ?_)⟩
                rw [hri] at hr'
                rw [hei] at he'
                cases hr'
                cases he'
                exact ⟨hu2.mp cu, hz e2⟩
              · have hc5 := s2 _ _ (su _ _ hc3)
                have nfc : c ≠ fo := ne_of_none hcs hfo
                rw [upd_ne nfc]
                exact hc5
            · rw [decide_eq_false cu]
              refine iteT ⟨_, rfl, .inl ⟨rfl, _, SqL.of (su _ _ hfx')⟩, _, rfl, _, rfl, _, rfl, (by show 3 ≤ sizeLine; decide), fun y hy => ?_⟩
              have s2 := Same.new (o := .tup [vi n, vi n, u]) hy
              have nfc : c ≠ fo := ne_of_none hcs hfo
              refine ⟨fo, _, _, rfl, rfl, s2 _ _ (su _ _ hfx'), lt_size (by omega), ⟨xs ++ [.ref y], _, _, _, _, rfl, Same.mut (Same.trans smu s2) hfo, upd_same, by simp; omega, fun e0 => pref_nil e0⟩, ?_⟩
              rw [upd_ne nfc]
              exact s2 _ _ (su _ _ hc3)
        · obtain ⟨xs, s3, s4, s5, s6, rfl, sm, hfx, hxl, inv⟩ := inv
          have hfew := L.few
          have hlen := hal1.1
          obtain ⟨dxt', el', dd', ys', htb', hye', halE', hdd'⟩ := (L.kp (Same.kp sm)).tab
          refine ⟨_, rfl, tb, _, dxt', _, _, rfl, htb', T.cl_Table, T.no_Table_landings, rfl, dd', _, ls.map (fun q => (q.1 : Int)), rfl, .inl hdd', ?_, by simpa using hls, fun zs p hperm _ hpn => ?_⟩
          · unfold lsV
            rw [List.map_map, List.map_map]
            rfl
          have s2 := Same.new (o := .lst (zs.map V.int)) hpn
          have nfp : p ≠ fo := Ne.symm (ne_of_none hfx hpn)
          have hzl : zs.length < 64 := by rw [hperm.length_eq]; simpa using hls
          refine ⟨p, rfl, ⟨_, SqL.of upd_same⟩, ?_⟩
          refine for_list (K := K) (a := p) (xs := zs.map V.int) (fun n σ H' => Chk2 H c tb fo rs es ls zs n σ H' ∧ H' p = some (.lst (zs.map V.int))) ⟨⟨xs, _, _, _, _, rfl, Same.trans sm s2, s2 _ _ hfx, by omega, fun e0 => ⟨(inv e0).1, fun i => ?_, fun m i j hm => by omega⟩⟩, upd_same⟩ (fun n σ H' _ ⟨_, h⟩ => SqL.of h) (fun n x σ H' hxn ⟨inv, hp2⟩ => ?_) (fun σ H' ⟨inv, hp2⟩ => ?_)
          · by_cases q : i < rs.length
            · exact (inv e0).2 i (by omega)
            · intro r e hr' _
              have := (List.getElem?_eq_some_iff.mp hr').1
              omega
          · obtain ⟨xs, s3, s4, s5, s6, rfl, sm, hfx, hxl, inv⟩ := inv
            obtain ⟨z, hz, rfl⟩ : ∃ z, zs[n]? = some z ∧ x = V.int z := by
              rw [List.getElem?_map] at hxn
              cases q0 : zs[n]? with
              | none => rw [q0] at hxn; cases hxn
              | some s0 => rw [q0] at hxn; cases hxn; exact ⟨s0, rfl, rfl⟩
            obtain ⟨i, j, rfl, hij⟩ := key_landOf (hperm.mem_iff.mp (List.mem_of_getElem? hz))
            have hn := (List.getElem?_eq_some_iff.mp hz).1
            refine ⟨_, rfl, .inl ⟨rfl, _, SqL.of hfx⟩, _, rfl, _, rfl, _, rfl, c, tb, i, j, rs, es, ls, rfl, L.kp (Same.kp sm), clen, hij, fun H2 y ws s2 hyn hy hwl hw => ?_⟩
            have hf2 := s2 _ _ hfx
            refine ⟨fo, y, _, _, rfl, rfl, hf2, hy, le_size (by omega), ⟨xs ++ ws, _, _, _, _, rfl, Same.mut (Same.trans sm s2) hfo, upd_same, by simp; omega, fun e0 => ?_⟩, ?_⟩
            · obtain ⟨e1, e2⟩ := List.append_eq_nil_iff.mp e0
              obtain ⟨i1, i2, i3⟩ := inv e1
              refine ⟨i1, i2, fun m i' j' hm hz' hl' => ?_⟩
              by_cases q : m < n
              · exact i3 m i' j' q hz' hl'
              · have : m = n := by omega
                subst this
                rw [hz] at hz'
                have : i = i' := by
                  have := Option.some.inj hz'
                  omega
                subst this
                rw [hij] at hl'
                cases hl'
                exact hw e2
            · rw [upd_ne nfp]
              exact s2 _ _ hp2
          · obtain ⟨xs, s3, s4, s5, s6, rfl, sm, hfx, hxl, inv⟩ := inv
            refine ⟨_, rfl, k _ fo xs sm hfo hfx (fun e0 => ?_)⟩
            obtain ⟨i1, i2, i3⟩ := inv e0
            refine ⟨clen, i1, fun i r e hr' he' => i2 i r e hr' he', fun i j hl => ?_⟩
            have hmem := hperm.mem_iff.mpr (landOf_key hl)
            obtain ⟨m, hm⟩ := List.getElem?_of_mem hmem
            have hlt := (List.getElem?_eq_some_iff.mp hm).1
            obtain ⟨h1, h2⟩ := i3 m i j (by simpa using hlt) hm hl
            exact ⟨h1, fun r e hr' he' => h2 r e hr' he' (i2 i r e hr' he').1⟩
      · refine ⟨_, rfl, (by show 0 ≤ sizeLine; decide), fun ep hep => ?_⟩
        have s2 := Same.new (o := .lst []) hep
        have s12 := Same.trans s1 s2
        refine ⟨c, ep, cs, rfl, rfl, SqL.of (s12 _ _ hcs), SqL.of upd_same, _, rfl, ?_⟩
        have hfo2 := s2 _ _ (show upd H fo (.lst []) fo = some (.lst []) from upd_same)
        cases rs with
        | nil =>
          have : cs = [] := List.eq_nil_of_length_eq_zero hal.1
          subst this
          exact iteF (rest _ _ ⟨[], _, _, _, _, rfl, s12, hfo2, by simp, fun _ => ⟨fun z => absurd rfl z, fun i hi => by omega⟩⟩)
        | cons r0 rs0 =>
          have hcs0 : cs ≠ [] := by
            intro z
            subst z
            have := hal.1
            simp at this
          obtain ⟨dxt', el', dd', ys', htb', hye', halE', hdd'⟩ := (L.kp (Same.kp s12)).tab
          have h0 : 0 < es.length := by rw [clen]; simp
          obtain ⟨v0, hv0, h0V⟩ := halE'.2 0 _ (List.getElem?_eq_getElem h0)
          have : cs.isEmpty = false := by cases cs with
            | nil => exact absurd rfl hcs0
            | cons _ _ => rfl
          rw [this]
          refine iteT ⟨_, rfl, tb, _, dxt', _, _, rfl, htb', T.cl_Table, T.no_Table_entries, rfl, el', ys', _, _, rfl, rfl, sl hye', at_nat (j := 0) rfl hv0, entD _, entD (some START), entD_dp h0V, entD_dp (T.start _), entD_shaped _, entD_shaped _, _, rfl, ?_⟩
          by_cases ce : es[0] = some START
          · rw [(entD_eqv _ _).mpr ce]
            refine iteF (rest _ _ ⟨[], _, _, _, _, rfl, s12, hfo2, by simp, fun _ => ⟨fun _ => ?_, fun i hi => by omega⟩⟩)
            rw [List.getElem?_eq_getElem h0, ce]
          · rw [show PyData.eqv (entD es[0]) (entD (some START)) = false from Bool.eq_false_iff.mpr (fun z => ce ((entD_eqv _ _).mp z))]
            refine iteT ⟨_, rfl, .inl ⟨rfl, _, SqL.of hfo2⟩, _, rfl, (by show 3 ≤ sizeLine; decide), fun y hy => ?_⟩
            have s3 := Same.new (o := .tup [.int (-1), .int 0, .str "start"]) hy
            exact ⟨fo, _, _, rfl, rfl, s3 _ _ hfo2, lt_size (by simp), rest _ _ ⟨[.ref y], _, _, _, _, rfl, Same.mut (Same.trans s12 s3) hfo, upd_same, by simp, fun e0 => by cases e0⟩⟩
    · rw [decide_eq_false (show ¬ V.int (ys.length : Int) = V.int (cs.length : Int) from fun z => clen (by have := V.int.inj z; have := halE.1; have := hal.1; omega))]
      refine iteT ⟨_, rfl, _, rfl, (by show 3 ≤ sizeLine; decide), fun p hp => ⟨(by show 1 ≤ sizeLine; decide), fun q hq => ?_⟩⟩
      exact k _ q [.ref p] (Same.trans (Same.new hp) (Same.new hq)) (Same.back (Same.new hp) hq) upd_same (fun z => by cases z)
end
end Fb

set_option Elab.async false
set_option linter.all false
set_option maxRecDepth 100000
set_option maxHeartbeats 4000000
set_option exponentiation.threshold 5000
namespace Fb
open PySem PySem.Spec PyProof.Rows L2
open He (ga ma)
/-! ### small entries -/
def Small (e : Ent) : Prop := e.h ≤ 4000 ∧ e.b < Big ∧ e.x4 < Big ∧ e.x5 < Big ∧ e.x6 < Big
theorem START_small : Small START := ⟨by decide, by unfold Big START; decide, by unfold Big START; decide, by unfold Big START; decide, by unfold Big START; decide⟩
theorem woN_small {s p : Nat} (h : s < Big) : woN s p < Big := by
  refine Nat.lt_of_le_of_lt (Nat.le_of_testBit ?_) h
  intro i hi
  rw [woN_bit, Bool.and_eq_true] at hi
  exact hi.1
theorem foN_small {s q p : Nat} (h : s < Big) (hp : p < 4008) : foN s q p < Big := by
  unfold foN
  by_cases c : s.testBit q = true
  · rw [if_pos c]
    exact Nat.or_lt_two_pow h (Nat.pow_lt_pow_right (by decide) hp)
  · rw [if_neg c]
    exact woN_small h
theorem keepsN_small {r : RowD} {s h : Nat} (hok : r.ok) (hs : s < Big) (hh : h ≤ 4000) : keepsN r s h < Big := by
  cases r with
  | set b n => exact woN_small hs
  | copy b o => exact foN_small hs (by have := hok.1; omega)
  | add b o t => exact woN_small hs
  | grow m => exact hs
  | shrink m => exact Nat.lt_of_le_of_lt Nat.and_le_left hs
  | put b c => exact foN_small hs (by omega)
  | get b c => exact foN_small hs (by have := hok.1; omega)
  | jump t => exact hs
  | branch b t => exact hs
  | call t =>
    refine Nat.lt_of_le_of_lt (Nat.le_of_testBit ?_) hs
    intro i hi
    rw [show keepsN (.call t) s h = (s / 2 ^ 8 * 2 ^ 8) ||| (s &&& 112) from rfl, call_bit, Bool.and_eq_true] at hi
    exact hi.1
  | back b => exact hs
  | drop b => exact hs
theorem heightN_small {r : RowD} {h h' : Nat} (hh : h ≤ 4000) (e : heightN r h = some h') : h' ≤ 4000 := by
  cases r with
  | grow m =>
    by_cases c : h + m > 4000
    · rw [show heightN (.grow m) h = none from if_pos c] at e; cases e
    · rw [show heightN (.grow m) h = some (h + m) from if_neg c] at e; cases e; omega
  | shrink m =>
    by_cases c : m > h
    · rw [show heightN (.shrink m) h = none from if_pos c] at e; cases e
    · rw [show heightN (.shrink m) h = some (h - m) from if_neg c] at e; cases e; omega
  | put b c =>
    by_cases k : c ≥ h
    · rw [show heightN (.put b c) h = none from if_pos k] at e; cases e
    · rw [show heightN (.put b c) h = some h from if_neg k] at e; cases e; exact hh
  | get b c =>
    by_cases k : c ≥ h
    · rw [show heightN (.get b c) h = none from if_pos k] at e; cases e
    · rw [show heightN (.get b c) h = some h from if_neg k] at e; cases e; exact hh
  | _ => cases e; exact hh
theorem behind_small {r : RowD} {e : Ent} {h : Nat} (hok : r.ok) (he : Small e) (hh : heightN r e.h = some h) : Small (behindN r e h) :=
  ⟨heightN_small he.1 hh, keepsN_small hok he.2.1 he.1, keepsN_small hok he.2.2.1 he.1, keepsN_small hok he.2.2.2.1 he.1, keepsN_small hok he.2.2.2.2 he.1⟩
theorem thr_small {e : Ent} (h : Small e) {i s : Nat} (hs : (thr e)[i]? = some s) : s < Big := by
  obtain ⟨_, _, h1, h2, h3⟩ := h
  match i, hs with
  | 0, hs => cases hs; exact h1
  | 1, hs => cases hs; exact h2
  | 2, hs => cases hs; exact h3
  | i + 3, hs => simp [thr] at hs
def meetN (o : Option Ent) (x : Ent) : Ent := match o with
  | none => x
  | some a => ⟨a.h, a.b &&& x.b, a.x4 &&& x.x4, a.x5 &&& x.x5, a.x6 &&& x.x6⟩
theorem meet_small {o : Option Ent} {x : Ent} (ho : ∀ a, o = some a → Small a) (hx : Small x) : Small (meetN o x) := by
  cases o with
  | none => exact hx
  | some a =>
    obtain ⟨h0, h1, h2, h3, h4⟩ := ho a rfl
    exact ⟨h0, Nat.lt_of_le_of_lt Nat.and_le_left h1, Nat.lt_of_le_of_lt Nat.and_le_left h2, Nat.lt_of_le_of_lt Nat.and_le_left h3, Nat.lt_of_le_of_lt Nat.and_le_left h4⟩
/-- what makes the guess end: places -/
def cnt (s : Nat) : Nat → Nat
  | 0 => 0
  | n + 1 => cnt s n + (if s.testBit n = true then 1 else 0)
theorem cnt_le (s : Nat) : ∀ n, cnt s n ≤ n
  | 0 => Nat.le_refl _
  | n + 1 => by
    have := cnt_le s n
    unfold cnt
    by_cases h : s.testBit n = true
    · rw [if_pos h]; omega
    · rw [if_neg h]; omega
theorem cnt_and (a x : Nat) : ∀ n, cnt (a &&& x) n ≤ cnt a n
  | 0 => Nat.le_refl _
  | n + 1 => by
    have := cnt_and a x n
    unfold cnt
    rw [Nat.testBit_and]
    cases a.testBit n <;> cases x.testBit n <;> simp <;> omega
theorem cnt_lt (a x i : Nat) (h1 : a.testBit i = true) (h2 : x.testBit i = false) : ∀ n, i < n → cnt (a &&& x) n + 1 ≤ cnt a n
  | 0, h => absurd h (Nat.not_lt_zero _)
  | n + 1, h => by
    unfold cnt
    rw [Nat.testBit_and]
    by_cases c : i = n
    · subst c
      have := cnt_and a x i
      rw [h1, h2]
      simp
      omega
    · have := cnt_lt a x i h1 h2 n (by omega)
      cases a.testBit n <;> cases x.testBit n <;> simp <;> omega
theorem cnt_ne {a x : Nat} (ha : a < Big) (h : (a &&& x) ≠ a) : cnt (a &&& x) 4008 + 1 ≤ cnt a 4008 := by
  have : ∃ i, a.testBit i = true ∧ x.testBit i = false := by
    refine Classical.byContradiction fun hn => h (Nat.eq_of_testBit_eq fun i => ?_)
    rw [Nat.testBit_and]
    cases q : a.testBit i with
    | false => rfl
    | true =>
      cases z : x.testBit i with
      | true => rfl
      | false => exact absurd ⟨i, q, z⟩ hn
  obtain ⟨i, h1, h2⟩ := this
  refine cnt_lt a x i h1 h2 4008 ?_
  rcases Nat.lt_or_ge i 4008 with l | l
  · exact l
  · rw [Nat.testBit_lt_two_pow (Nat.lt_of_lt_of_le ha (Nat.pow_le_pow_right (by decide) l))] at h1
    cases h1
def rank : Option Ent → Nat
  | none => 16033
  | some e => cnt e.b 4008 + cnt e.x4 4008 + cnt e.x5 4008 + cnt e.x6 4008
theorem rank_le (o : Option Ent) : rank o ≤ 16033 := by
  cases o with
  | none => exact Nat.le_refl _
  | some e =>
    have l1 := cnt_le e.b 4008
    have l2 := cnt_le e.x4 4008
    have l3 := cnt_le e.x5 4008
    have l4 := cnt_le e.x6 4008
    show cnt e.b 4008 + cnt e.x4 4008 + cnt e.x5 4008 + cnt e.x6 4008 ≤ 16033
    omega
theorem rank_meet {o : Option Ent} {x : Ent} (ho : ∀ a, o = some a → Small a) (h : some (meetN o x) ≠ o) : rank (some (meetN o x)) + 1 ≤ rank o := by
  cases o with
  | none =>
    have l1 := cnt_le x.b 4008
    have l2 := cnt_le x.x4 4008
    have l3 := cnt_le x.x5 4008
    have l4 := cnt_le x.x6 4008
    show cnt x.b 4008 + cnt x.x4 4008 + cnt x.x5 4008 + cnt x.x6 4008 + 1 ≤ 16033
    omega
  | some a =>
    obtain ⟨_, s1, s2, s3, s4⟩ := ho a rfl
    show cnt (a.b &&& x.b) 4008 + cnt (a.x4 &&& x.x4) 4008 + cnt (a.x5 &&& x.x5) 4008 + cnt (a.x6 &&& x.x6) 4008 + 1 ≤ cnt a.b 4008 + cnt a.x4 4008 + cnt a.x5 4008 + cnt a.x6 4008
    have l1 := cnt_and a.b x.b 4008
    have l2 := cnt_and a.x4 x.x4 4008
    have l3 := cnt_and a.x5 x.x5 4008
    have l4 := cnt_and a.x6 x.x6 4008
    by_cases c1 : (a.b &&& x.b) = a.b
    · by_cases c2 : (a.x4 &&& x.x4) = a.x4
      · by_cases c3 : (a.x5 &&& x.x5) = a.x5
        · by_cases c4 : (a.x6 &&& x.x6) = a.x6
          · refine absurd ?_ h
            obtain ⟨ah, ab, a4, a5, a6⟩ := a
            show some (Ent.mk ah (ab &&& x.b) (a4 &&& x.x4) (a5 &&& x.x5) (a6 &&& x.x6)) = _
            rw [show ab &&& x.b = ab from c1, show a4 &&& x.x4 = a4 from c2, show a5 &&& x.x5 = a5 from c3, show a6 &&& x.x6 = a6 from c4]
          · have := cnt_ne s4 c4; omega
        · have := cnt_ne s3 c3; omega
      · have := cnt_ne s2 c2; omega
    · have := cnt_ne s1 c1; omega
section
variable {P : Program} {w : World} {K : PySem.W.Frag} {mg : Str → Option Value} {base : Heap}
abbrev NT (K : PySem.W.Frag) : Value := .ref (ga K "NoTable")
/-! ### entry_behind -/
def spBehind (K : PySem.W.Frag) : Sp := fun vs H Q E => ∃ (a : Addr) (v : V) (r : RowD) (e : Ent), vs = [.ref a, v] ∧ RowAt K H a r ∧ r.ok ∧ EntV K H v (some e) ∧ Small e ∧ (∀ H', Same H H' → E (NT K) none H') ∧
  ∀ H' u h', Same H H' → heightN r e.h = some h' → EntV K H' u (some (behindN r e h')) → Q u H'
theorem r_entry_behind (T : Tx K mg) : FnR P w K mg base (L2.CX P w) 4 (ga K "entry_behind") (spBehind K) := by
  refine fnr T.F_entry_behind sc_entry_behind (fun vs H Q E h => ?_) hb_entry_behind (fun cdv A outer s H vs Q E hr h => ?_)
  · obtain ⟨a, v, r, e, rfl, _⟩ := h
    rfl
  · obtain ⟨a, v, r, e, rfl, hx, hok, ⟨t, q, rfl, ht, hq⟩, hsm, hE, k⟩ := h
    obtain ⟨dx, hx⟩ := hx
    refine ⟨_, pss_cons (ps_set (i := 2) sc_entry_behind.nd rfl (.inl rfl) (pe_methR (pv 0) (T.clR r) (T.me_height r) (ok_height T r) (hr.mono (by decide)) pass0 (pa_cons (pe_ix ix_tup (pv 1) pe_int (fun _ _ => rfl)) pa_nil)))
      (pss_cons (ps_if (pt_cmpR op_isN (pv 2) pe_non (nomark _)) (pss_one (ps_raise rfl (takes_of rfl rfl rfl rfl) (pmk_own PySem.F.excBase_ValueError T.ex_NoTable.1 T.gl_NoTable T.ex_NoTable.2.1 (raises_own T.ex_NoTable.2.2.1 T.ex_NoTable.2.2.2) rfl))) pss_nil)
      (PSs.nox (pss_cons (ps_setLc (i := 3) (own := [("places", 4)]) (g := gName 4) (tt := tYes) rfl sc_entry_behind.nd rfl rfl (sw_true rfl rfl rfl (by decide +kernel)) (pi_tup (pe_ix ix_tup (pv 1) pe_int (fun _ _ => rfl))) (blkOk_by (N := N_entry_behind) (sc := defScope s_entry_behind) (by decide +kernel)) (fun _ _ _ _ _ => pg_name (i := 4) sc_entry_behind.nd rfl (.inl rfl)) (fun _ _ _ _ _ => pts_nil)
          (fun _ _ _ _ _ => pe_methR (pv 0) (T.clR r) (T.me_keeps r) (ok_keeps T r) hr pass0 (pa_cons (pv 4) (pa_cons (pe_ix (ixT (K := K) rfl) (pv 1) pe_int (fun _ _ => rfl)) pa_nil))))
      (pss_one (ps_ret (pe_tup (pa_cons (pv 2) (pa_cons (pe_methR (pv 0) (T.clR r) (T.me_keeps r) (ok_keeps T r) hr pass0 (pa_cons (pe_ix ix_tup (pv 1) pe_int (fun _ _ => rfl)) (pa_cons (pe_ix ix_tup (pv 1) pe_int (fun _ _ => rfl)) pa_nil)))
        (pa_cons (pe_tup (pa_cons (pe_ix ix_list (pv 3) pe_int (fun _ _ => rfl)) (pa_cons (pe_ix ix_list (pv 3) pe_int (fun _ _ => rfl)) (pa_cons (pe_ix ix_list (pv 3) pe_int (fun _ _ => rfl)) pa_nil)))) pa_nil))))))))), ?_⟩
    refine ⟨_, rfl, a, dx, _, rfl, hx, no_height r, _, rfl, t, _, _, vi e.h, rfl, rfl, ht, rfl, a, e.h, rfl, ⟨dx, hx⟩, ?_⟩
    refine ⟨_, rfl, rfl, _, rfl, ?_⟩
    cases hh : heightN r e.h with
    | none => exact iteT (hE _ Same.rfl)
    | some h' =>
      refine iteF ⟨_, rfl, t, _, _, .ref q, rfl, rfl, ht, rfl, q, rfl, ⟨_, hq⟩, fun D hD => ?_⟩
      refine lc_tup (K := K) (a := q) (xs := ns (thr e)) (fun i H' => Same H H' ∧ H' D = some (.lst (ns (((thr e).map fun s => keepsN r s e.h).take i)))) ⟨Same.new hD, upd_same⟩ (fun i H' _ ⟨sm, _⟩ => (Same.kp sm).seqT hq) (fun i x H' hxi ⟨sm, hDl⟩ => ?_) (fun H' ⟨sm, hDl⟩ => ?_)
      · obtain ⟨s0, hs0, rfl⟩ : ∃ s0, (thr e)[i]? = some s0 ∧ x = vi s0 := by
          rw [List.getElem?_map] at hxi
          cases q0 : (thr e)[i]? with
          | none => rw [q0] at hxi; cases hxi
          | some s0 => rw [q0] at hxi; cases hxi; exact ⟨s0, rfl, rfl⟩
        refine ⟨rfl, _, rfl, a, dx, _, rfl, sm _ _ hx, no_keeps r, _, rfl, _, rfl, t, _, _, vi e.h, rfl, rfl, (Same.kp sm).seqT ht, rfl, a, s0, e.h, rfl, ⟨dx, sm _ _ hx⟩, hok, hsm.1, thr_small hsm hs0, ⟨h', hh⟩, _, hDl, lt_size ?_, Same.mut sm hD, ?_⟩
        · have : (((thr e).map fun s => keepsN r s e.h).take i).length ≤ 3 := by
            rw [List.length_take, List.length_map]
            exact Nat.le_trans (Nat.min_le_right _ _) (Nat.le_refl 3)
          rw [List.length_map]
          omega
        · rw [upd_same, List.take_add_one, List.getElem?_map, hs0]
          simp [ns]
      · have hD3 : H' D = some (.lst (ns [keepsN r e.x4 e.h, keepsN r e.x5 e.h, keepsN r e.x6 e.h])) := hDl
        have hx' := sm _ _ hx
        have ht' := (Same.kp sm).seqT ht
        refine ⟨_, rfl, _, rfl, a, dx, _, rfl, hx', no_keeps r, _, rfl, t, _, _, vi e.b, rfl, rfl, ht', rfl, _, rfl, t, _, _, vi e.h, rfl, rfl, ht', rfl, a, e.b, e.h, rfl, ⟨dx, hx'⟩, hok, hsm.1, hsm.2.1, ⟨h', hh⟩, ?_⟩
        refine ⟨_, rfl, D, _, _, vi (keepsN r e.x4 e.h), rfl, rfl, sl hD3, rfl, _, rfl, D, _, _, vi (keepsN r e.x5 e.h), rfl, rfl, sl hD3, rfl, _, rfl, D, _, _, vi (keepsN r e.x6 e.h), rfl, rfl, sl hD3, rfl, (by show 3 ≤ sizeLine; decide), fun y hy => ⟨(by show 3 ≤ sizeLine; decide), fun z hz => ?_⟩⟩
        have s2 := Same.new (o := .tup [vi (keepsN r e.x4 e.h), vi (keepsN r e.x5 e.h), vi (keepsN r e.x6 e.h)]) hy
        have s3 := Same.new (o := .tup [vi h', vi (keepsN r e.b e.h), .ref y]) hz
        exact k _ _ h' (Same.trans sm (Same.trans s2 s3)) hh ⟨z, y, rfl, SqT.of upd_same, SqT.of (s3 _ _ upd_same)⟩
/-! ### entry_of_both -/
def spBoth (K : PySem.W.Frag) : Sp := fun vs H Q E => ∃ (u v : V) (o : Option Ent) (x : Ent), vs = [u, v] ∧ EntV K H u o ∧ EntV K H v (some x) ∧ (∀ H', Same H H' → E (NT K) none H') ∧
  ∀ H' z, Same H H' → EntV K H' z (some (meetN o x)) → Q z H'
theorem r_entry_of_both (T : Tx K mg) : FnR P w K mg base (L2.CX P w) 1 (ga K "entry_of_both") (spBoth K) := by
  refine fnr T.F_entry_of_both sc_entry_of_both (fun vs H Q E h => ?_) hb_entry_of_both (fun cdv A outer s H vs Q E hr h => ?_)
  · obtain ⟨u, v, o, x, rfl, _⟩ := h
    rfl
  · obtain ⟨u, v, o, x, rfl, ho, ⟨t, q, rfl, ht, hq⟩, hE, k⟩ := h
    refine ⟨_, pss_cons (ps_if (pt_cmpR op_isN (pv 0) pe_non (nomark _)) (pss_one (ps_ret (pv 1))) pss_nil)
      (pss_cons (ps_if (pt_cmpR op_ne (pe_ix ix_tup (pv 0) pe_int (fun _ _ => rfl)) (pe_ix ix_tup (pv 1) pe_int (fun _ _ => rfl)) (nomark _)) (pss_one (ps_raise rfl (takes_of rfl rfl rfl rfl) (pmk_own PySem.F.excBase_ValueError T.ex_NoTable.1 T.gl_NoTable T.ex_NoTable.2.1 (raises_own T.ex_NoTable.2.2.1 T.ex_NoTable.2.2.2) rfl))) pss_nil)
      (PSs.nox (pss_cons (ps_setLc (i := 2) (own := [("k", 3)]) (g := gName 3) (tt := tYes) rfl sc_entry_of_both.nd rfl rfl (sw_true rfl rfl rfl (by decide +kernel)) (pi_range1 rfl T.fr_range (pa_cons pe_int pa_nil)) (blkOk_by (N := N_entry_of_both) (sc := defScope s_entry_of_both) (by decide +kernel)) (fun _ _ _ _ _ => pg_name (i := 3) sc_entry_of_both.nd rfl (.inl rfl)) (fun _ _ _ _ _ => pts_nil)
          (fun _ _ _ _ _ => pe_op op_and (pe_ix (ixT (K := K) rfl) (pe_ix (ixT (K := K) rfl) (pv 0) pe_int (fun _ _ => rfl)) (pv 3) (fun _ _ => rfl)) (pe_ix (ixT (K := K) rfl) (pe_ix (ixT (K := K) rfl) (pv 1) pe_int (fun _ _ => rfl)) (pv 3) (fun _ _ => rfl))))
      (pss_one (ps_ret (pe_tup (pa_cons (pe_ix ix_tup (pv 0) pe_int (fun _ _ => rfl)) (pa_cons (pe_op op_and (pe_ix ix_tup (pv 0) pe_int (fun _ _ => rfl)) (pe_ix ix_tup (pv 1) pe_int (fun _ _ => rfl)))
        (pa_cons (pe_tup (pa_cons (pe_ix ix_list (pv 2) pe_int (fun _ _ => rfl)) (pa_cons (pe_ix ix_list (pv 2) pe_int (fun _ _ => rfl)) (pa_cons (pe_ix ix_list (pv 2) pe_int (fun _ _ => rfl)) pa_nil)))) pa_nil))))))))), ?_⟩
    refine ⟨_, rfl, rfl, _, rfl, ?_⟩
    cases o with
    | none =>
      cases ho
      exact iteT ⟨_, rfl, k _ _ Same.rfl ⟨t, q, rfl, ht, hq⟩⟩
    | some a =>
      obtain ⟨t2, q2, rfl, ht2, hq2⟩ := ho
      refine iteF ⟨_, rfl, t2, _, _, vi a.h, rfl, rfl, ht2, rfl, _, rfl, t, _, _, vi x.h, rfl, rfl, ht, rfl, rfl, _, rfl, ?_⟩
      refine ite2 (fun _ => hE _ Same.rfl) (fun _ => ?_)
      refine ⟨3, rfl, by decide, by decide, fun D hD => ?_⟩
      refine lc_range (lo := 0) (n := 3) (fun i H' => Same H H' ∧ H' D = some (.lst (ns ([a.x4 &&& x.x4, a.x5 &&& x.x5, a.x6 &&& x.x6].take i)))) ⟨Same.new hD, upd_same⟩ (fun i H' hi ⟨sm, hDl⟩ => ?_) (fun H' ⟨sm, hDl⟩ => ?_)
      · have ht2' := (Same.kp sm).seqT ht2
        have hq2' := (Same.kp sm).seqT hq2
        have ht' := (Same.kp sm).seqT ht
        have hq' := (Same.kp sm).seqT hq
        match i, hi with
        | 0, _ =>
          refine ⟨rfl, _, rfl, t2, _, _, .ref q2, rfl, rfl, ht2', rfl, _, rfl, q2, _, _, vi a.x4, rfl, rfl, hq2', rfl, _, rfl, t, _, _, .ref q, rfl, rfl, ht', rfl, _, rfl, q, _, _, vi x.x4, rfl, rfl, hq', rfl, _, _, rfl, rfl, _, hDl, lt_size (by simp), Same.mut sm hD, ?_⟩
          rw [upd_same]
          show some (HO.lst (_ ++ [V.int (Builtin.bitAnd (a.x4 : Int) (x.x4 : Int))])) = _
          rw [and_nn]
          rfl
        | 1, _ =>
          refine ⟨rfl, _, rfl, t2, _, _, .ref q2, rfl, rfl, ht2', rfl, _, rfl, q2, _, _, vi a.x5, rfl, rfl, hq2', rfl, _, rfl, t, _, _, .ref q, rfl, rfl, ht', rfl, _, rfl, q, _, _, vi x.x5, rfl, rfl, hq', rfl, _, _, rfl, rfl, _, hDl, lt_size (by simp), Same.mut sm hD, ?_⟩
          rw [upd_same]
          show some (HO.lst (_ ++ [V.int (Builtin.bitAnd (a.x5 : Int) (x.x5 : Int))])) = _
          rw [and_nn]
          rfl
        | 2, _ =>
          refine ⟨rfl, _, rfl, t2, _, _, .ref q2, rfl, rfl, ht2', rfl, _, rfl, q2, _, _, vi a.x6, rfl, rfl, hq2', rfl, _, rfl, t, _, _, .ref q, rfl, rfl, ht', rfl, _, rfl, q, _, _, vi x.x6, rfl, rfl, hq', rfl, _, _, rfl, rfl, _, hDl, lt_size (by simp), Same.mut sm hD, ?_⟩
          rw [upd_same]
          show some (HO.lst (_ ++ [V.int (Builtin.bitAnd (a.x6 : Int) (x.x6 : Int))])) = _
          rw [and_nn]
          rfl
      · have hD3 : H' D = some (.lst (ns [a.x4 &&& x.x4, a.x5 &&& x.x5, a.x6 &&& x.x6])) := hDl
        have ht2' := (Same.kp sm).seqT ht2
        have ht' := (Same.kp sm).seqT ht
        refine ⟨_, rfl, t2, _, _, vi a.h, rfl, rfl, ht2', rfl, _, rfl, t2, _, _, vi a.b, rfl, rfl, ht2', rfl, _, rfl, t, _, _, vi x.b, rfl, rfl, ht', rfl, _, _, rfl, rfl, ?_⟩
        refine ⟨_, rfl, D, _, _, vi (a.x4 &&& x.x4), rfl, rfl, sl hD3, rfl, _, rfl, D, _, _, vi (a.x5 &&& x.x5), rfl, rfl, sl hD3, rfl, _, rfl, D, _, _, vi (a.x6 &&& x.x6), rfl, rfl, sl hD3, rfl, (by show 3 ≤ sizeLine; decide), fun y hy => ⟨(by show 3 ≤ sizeLine; decide), fun z hz => ?_⟩⟩
        have s2 := Same.new (o := .tup [vi (a.x4 &&& x.x4), vi (a.x5 &&& x.x5), vi (a.x6 &&& x.x6)]) hy
        have s3 := Same.new (o := .tup [vi a.h, .int (Builtin.bitAnd (a.b : Int) (x.b : Int)), .ref y]) hz
        refine k _ _ (Same.trans sm (Same.trans s2 s3)) ⟨z, y, rfl, SqT.of ?_, SqT.of (s3 _ _ upd_same)⟩
        rw [upd_same]
        show some (HO.tup [vi a.h, V.int (Builtin.bitAnd (a.b : Int) (x.b : Int)), .ref y]) = _
        rw [and_nn]
        rfl
end
end Fb

set_option Elab.async false
set_option linter.all false
set_option maxRecDepth 100000
set_option maxHeartbeats 4000000
set_option exponentiation.threshold 5000
namespace Fb
open PySem PySem.Spec PyProof.Rows L2
open He (ga ma)
theorem seqT_updL {K : PySem.W.Frag} {H : Hp} {a t : Addr} {xs ys zs : List V} (h : H a = some (.lst xs)) (q : SqT K H t zs) : SqT K (upd H a (.lst ys)) t zs := by
  rcases q with (q | ⟨o, q⟩) | q
  · refine .inl (.inl ?_)
    rw [upd_ne (ne_of q h (by intro z; cases z))]
    exact q
  · refine .inl (.inr ⟨o, ?_⟩)
    rw [upd_ne (ne_of q h (by intro z; cases z))]
    exact q
  · exact .inr q
theorem ent_updL {K : PySem.W.Frag} {H : Hp} {a : Addr} {xs ys : List V} {v : V} {e : Option Ent} (h : H a = some (.lst xs)) (q : EntV K H v e) : EntV K (upd H a (.lst ys)) v e := by
  cases e with
  | none => exact q
  | some e =>
    obtain ⟨t, u, r, b, c⟩ := q
    exact ⟨t, u, r, seqT_updL h b, seqT_updL h c⟩
def WayV (K : PySem.W.Frag) (H : Hp) (v : V) (q : Nat × Ent) : Prop := ∃ t u, v = .ref t ∧ SqT K H t [vi q.1, u] ∧ EntV K H u (some q.2)
theorem way_updL {K : PySem.W.Frag} {H : Hp} {a : Addr} {xs ys : List V} {v : V} {e : Nat × Ent} (h : H a = some (.lst xs)) (q : WayV K H v e) : WayV K (upd H a (.lst ys)) v e := let ⟨t, u, r, b, c⟩ := q; ⟨t, u, r, seqT_updL h b, ent_updL h c⟩
theorem Kp.way {K : PySem.W.Frag} {H H' : Hp} {v : V} {e : Nat × Ent} (k : Kp H H') (q : WayV K H v e) : WayV K H' v e := let ⟨t, u, r, b, c⟩ := q; ⟨t, u, r, k.seqT b, k.ent c⟩
section
variable {P : Program} {w : World} {K : PySem.W.Frag} {mg : Str → Option Value} {base : Heap}
/-! ### ways_from -/
def spWays (K : PySem.W.Frag) : Sp := fun vs H Q E => ∃ (c d : Addr) (i : Nat) (v : V) (rs : List RowD) (ls : List (Nat × Nat)) (r : RowD) (e : Ent), vs = [.ref c, vi i, v, .ref d] ∧ CodeAt K H c rs ∧ rs[i]? = some r ∧ r.ok ∧ EntV K H v (some e) ∧ Small e ∧ H d = some (.dK (lsV ls)) ∧ (∀ H', Same H H' → E (NT K) none H') ∧
  ∀ H' p xs l, Same H H' → H p = none → H' p = some (.lst xs) → Al (WayV K H') xs l → (∀ q ∈ l, Small q.2) → Q (.ref p) H'
theorem r_ways_from (T : Tx K mg) : FnR P w K mg base (L2.CX P w) 5 (ga K "ways_from") (spWays K) := by
  refine fnr T.F_ways_from sc_ways_from (fun vs H Q E h => ?_) hb_ways_from (fun cdv A outer s H vs Q E hr h => ?_)
  · obtain ⟨c, d, i, v, rs, ls, r, e, rfl, _⟩ := h
    rfl
  · obtain ⟨c, d, i, v, rs, ls, r, e, rfl, hcode, hri, hok, he, hsm, hd, hE, k⟩ := h
    obtain ⟨cs, hcs, hal⟩ := hcode
    obtain ⟨va, hva, a, rfl, hx⟩ := hal.2 _ _ hri
    have hu := hu_of hr
    refine ⟨_, pss_cons (ps_set (i := 4) sc_ways_from.nd rfl (.inl rfl) (pe_ix ix_list (pv 0) (pv 1) (fun _ _ => rfl)))
      (pss_cons (ps_set (i := 5) sc_ways_from.nd rfl (.inr rfl) (pe_f (r_entry_behind T) hr rfl T.gl_entry_behind T.kp_entry_behind (passes_call (E := E) (takes_of rfl rfl rfl rfl) (fun _ _ _ _ h => h)) (pa_cons (pv 4) (pa_cons (pv 2) pa_nil))))
      (pss_cons (ps_setLc (i := 6) (own := [("place", 7)]) (g := gName 7) (tt := tYes) rfl sc_ways_from.nd rfl rfl (sw_true rfl rfl rfl (by decide +kernel)) (pi_list (pe_methR (pv 4) (T.clR r) (T.me_goes r) (ok_goes T r) (hr.mono (by decide)) pass0 (pa_cons (pv 1) pa_nil))) (blkOk_by (N := N_ways_from) (sc := defScope s_ways_from) (by decide +kernel)) (fun _ _ _ _ _ => pg_name (i := 7) sc_ways_from.nd rfl (.inl rfl)) (fun _ _ _ _ _ => pts_nil)
          (fun _ _ _ _ _ => pe_tup (pa_cons (pv 7) (pa_cons (pv 5) pa_nil))))
      (pss_cons (ps_if (pt_val (pe_callB call_isi rfl T.fr_isinstance (by decide +kernel) (pa_cons (pv 4) (pa_cons (pe_glob (v := V.ref (ga K "Call")) rfl T.gl_Call rfl) pa_nil))))
        (pss_cons (ps_expr (pe_bm PySem.F.plainAttrs_list PySem.F.slot_list_append PySem.F.type_list_append mt_append (pv 6) (pa_cons (pe_tup (pa_cons (pe_fld (pv 4) rfl) (pa_cons (pe_glob (v := V.ref (ga K "START")) rfl T.gl_START rfl) pa_nil))) pa_nil)))
        (pss_one (ps_if (pt_cmp (pc_din hu (pv 1) (pv 3)) (by rfl)) (pss_one (ps_expr (pe_bm PySem.F.plainAttrs_list PySem.F.slot_list_append PySem.F.type_list_append mt_append (pv 6) (pa_cons (pe_tup (pa_cons (pe_dget hu (pv 3) (pv 1) (fun _ _ => rfl)) (pa_cons (pv 5) pa_nil))) pa_nil)))) pss_nil))) pss_nil)
      (pss_one (ps_ret (pv 6)))))), ?_⟩
    refine ⟨_, rfl, _, rfl, c, cs, _, _, rfl, rfl, sl hcs, at_nat rfl hva, ?_⟩
    refine ⟨_, rfl, _, rfl, a, v, r, e, rfl, hx, hok, he, hsm, hE, fun H1 u h' s1 hh hu1 => ?_⟩
    have hsb := behind_small hok hsm hh
    obtain ⟨dx, hx1⟩ := RowAt.same s1 hx
    refine ⟨_, rfl, a, dx, _, rfl, hx1, no_goes r, _, rfl, a, i, rfl, ⟨dx, hx1⟩, fun H2 gl s2 hgn hgl => ?_⟩
    have s12 := Same.trans s1 s2
    refine ⟨gl, rfl, ⟨_, SqL.of hgl⟩, fun D hD => ?_⟩
    have hD0 : H D = none := Same.back s12 hD
    refine lc_list (K := K) (a := gl) (xs := ns (goesN r i)) (fun n H' => ∃ xs, Same H1 H' ∧ H' gl = some (.lst (ns (goesN r i))) ∧ H' D = some (.lst xs) ∧ xs.length ≤ n ∧ Al (WayV K H') xs (((goesN r i).take n).map fun j => (j, behindN r e h')))
      ⟨[], Same.trans s2 (Same.new hD), Same.new hD _ _ hgl, upd_same, Nat.le_refl _, .nil⟩ (fun n H' _ ⟨_, _, h, _⟩ => SqL.of h) (fun n x H' hxn ⟨xs, sm, hg, hDl, hxl, hxa⟩ => ?_) (fun H' ⟨xs, sm, hg, hDl, hxl, hxa⟩ => ?_)
    · obtain ⟨j, hj, rfl⟩ : ∃ j, (goesN r i)[n]? = some j ∧ x = vi j := by
        rw [List.getElem?_map] at hxn
        cases q0 : (goesN r i)[n]? with
        | none => rw [q0] at hxn; cases hxn
        | some s0 => rw [q0] at hxn; cases hxn; exact ⟨s0, rfl, rfl⟩
      refine ⟨rfl, _, rfl, _, rfl, (by show 2 ≤ sizeLine; decide), fun y hy => ?_⟩
      have s3 := Same.new (o := .tup [vi j, u]) hy
      have hn := (List.getElem?_eq_some_iff.mp hj).1
      have hgo := goes_len r i
      refine ⟨xs, s3 _ _ hDl, lt_size (by omega), xs ++ [.ref y], Same.mut (Same.trans sm s3) (Same.back s2 hD), ?_, upd_same, by simp; omega, ?_⟩
      · rw [upd_ne (ne_of_none hgl hD)]
        exact s3 _ _ hg
      · have z : ((goesN r i).take (n + 1)).map (fun j => (j, behindN r e h')) = ((goesN r i).take n).map (fun j => (j, behindN r e h')) ++ [(j, behindN r e h')] := by
          rw [List.take_add_one, hj]
          simp
        rw [z]
        refine ((hxa.imp fun _ _ => (Same.kp s3).way).push ?_).imp fun _ _ => way_updL (s3 _ _ hDl)
        exact ⟨y, u, rfl, SqT.of upd_same, (Same.kp s3).ent ((Same.kp sm).ent hu1)⟩
    · have hfull : (goesN r i).take (ns (goesN r i)).length = goesN r i := by rw [List.length_map, List.take_length]
      rw [hfull] at hxa
      have hgo := goes_len r i
      rw [List.length_map] at hxl
      have smH := Same.trans s1 sm
      obtain ⟨dx2, hx2⟩ := RowAt.same smH hx
      have hd2 := smH _ _ hd
      have base : ∀ q ∈ (goesN r i).map (fun j => (j, behindN r e h')), Small q.2 := fun q hq => by
        obtain ⟨j, _, rfl⟩ := List.mem_map.mp hq
        exact hsb
      refine ⟨_, rfl, _, _, _, _, _, rfl, .own _, T.tyr ⟨dx2, hx2⟩, T.kitCall r, _, rfl, ?_⟩
      cases r with
      | call t =>
        refine iteT ⟨_, rfl, .inl ⟨rfl, _, SqL.of hDl⟩, _, rfl, a, _, dx2, _, _, rfl, hx2, T.cl_Call, T.no_Call_target, rfl, (by show 2 ≤ sizeLine; decide), fun y hy => ?_⟩
        have s3 := Same.new (o := .tup [vi t, .ref (ga K "START")]) hy
        refine ⟨D, _, _, rfl, rfl, s3 _ _ hDl, lt_size (by omega), ?_⟩
        have s4 := Same.mut (o := .lst (xs ++ [.ref y])) (Same.trans smH s3) hD0
        have al2 := ((hxa.imp fun _ _ => (Same.kp s3).way).push (q := (t, START)) (v := .ref y) ⟨y, _, rfl, SqT.of upd_same, T.start _⟩).imp fun v q => way_updL (K := K) (ys := xs ++ [.ref y]) (v := v) (e := q) (s3 _ _ hDl)
        refine ⟨_, rfl, _, rfl, d, _, rfl, DGet.k (k := Sum.inl (i : Int)) (s4 _ _ hd), _, rfl, ?_⟩
        rw [valV_ls]
        cases hl : landOf ls i with
        | none =>
          refine iteF ⟨_, rfl, k _ D _ _ s4 hD0 upd_same al2 fun q hq => ?_⟩
          rcases List.mem_append.mp hq with hq | hq
          · exact base q hq
          · rw [List.mem_singleton.mp hq]
            exact START_small
        | some j =>
          have hDl2 : upd (upd H' y (.tup [vi t, .ref (ga K "START")])) D (.lst (xs ++ [.ref y])) D = some (.lst (xs ++ [.ref y])) := upd_same
          refine iteT ⟨_, rfl, .inl ⟨rfl, _, SqL.of hDl2⟩, _, rfl, _, rfl, d, vi j, rfl, ?_, _, rfl, (by show 2 ≤ sizeLine; decide), fun z hz => ?_⟩
          · have q := DGet.k (k := Sum.inl (i : Int)) (s4 _ _ hd)
            rw [valV_ls, hl] at q
            exact q
          · have s5 := Same.new (o := .tup [vi j, u]) hz
            refine ⟨D, _, _, rfl, rfl, s5 _ _ hDl2, lt_size (by simp; omega), ?_⟩
            have hu3 : EntV K H' u (some (behindN (.call t) e h')) := (Same.kp sm).ent hu1
            have hu4 : EntV K (upd (upd H' y (.tup [vi t, .ref (ga K "START")])) D (.lst (xs ++ [.ref y]))) u (some (behindN (.call t) e h')) := ent_updL (s3 _ _ hDl) ((Same.kp s3).ent hu3)
            have hu5 := (Same.kp s5).ent hu4
            have al3 := ((al2.imp fun _ _ => (Same.kp s5).way).push (q := (j, behindN (.call t) e h')) (v := .ref z) ⟨z, u, rfl, SqT.of upd_same, hu5⟩).imp fun v q => way_updL (K := K) (ys := xs ++ [.ref y] ++ [.ref z]) (v := v) (e := q) (s5 _ _ hDl2)
            refine ⟨_, rfl, k _ D _ _ (Same.mut (Same.trans s4 s5) hD0) hD0 upd_same al3 fun q hq => ?_⟩
            rcases List.mem_append.mp hq with hq | hq
            · rcases List.mem_append.mp hq with hq | hq
              · exact base q hq
              · rw [List.mem_singleton.mp hq]
                exact START_small
            · rw [List.mem_singleton.mp hq]
              exact hsb
      | _ => exact iteF ⟨_, rfl, k _ D _ _ smH hD0 hDl hxa base⟩
end
end Fb

set_option Elab.async false
set_option linter.all false
set_option maxRecDepth 100000
set_option maxHeartbeats 4000000
set_option exponentiation.threshold 5000
namespace Fb
open PySem PySem.Spec PyProof.Rows L2
open He (ga ma)
def total (es : List (Option Ent)) : Nat := (es.map rank).sum
theorem total_set : ∀ (es : List (Option Ent)) (i : Nat) (o o' : Option Ent), es[i]? = some o → total (es.set i o') + rank o = total es + rank o'
  | [], i, o, o', h => by simp at h
  | e :: es, 0, o, o', h => by
    cases h
    show rank o' + total es + rank e = rank e + total es + rank o'
    omega
  | e :: es, i + 1, o, o', h => by
    have := total_set es i o o' (by simpa using h)
    show rank e + total (es.set i o') + rank o = rank e + total es + rank o'
    omega
theorem total_none : ∀ n : Nat, total (List.replicate n none) = 16033 * n
  | 0 => rfl
  | n + 1 => by
    rw [List.replicate_succ]
    show 16033 + total (List.replicate n none) = _
    rw [total_none n]
    omega
section
variable {P : Program} {w : World} {K : PySem.W.Frag} {mg : Str → Option Value} {base : Heap}
/-! ### guess -/
structure GI (K : PySem.W.Frag) (rs : List RowD) (ls : List (Nat × Nat)) (sd el tl : Addr) (H0 : Hp) (es : List (Option Ent)) (ex : List V) (td : List Nat) (H' : Hp) : Prop where
  same : Same H0 H'
  sd : H' sd = some (.dK (lsV ls))
  el : H' el = some (.lst ex)
  al : Al (EntV K H') ex es
  tl : H' tl = some (.lst (ns td))
  len : es.length = rs.length
  small : ∀ (i : Nat) e, es[i]? = some (some e) → Small e
  todo : ∀ t ∈ td, ∃ e, es[t]? = some (some e)
  few : total es + td.length ≤ 16033 * 1000 + 1
theorem GI.step {K : PySem.W.Frag} {rs : List RowD} {ls : List (Nat × Nat)} {sd el tl : Addr} {H0 H' H'' : Hp} {es : List (Option Ent)} {ex : List V} {td : List Nat} (G : GI K rs ls sd el tl H0 es ex td H') (s : Same H' H'') : GI K rs ls sd el tl H0 es ex td H'' :=
  ⟨Same.trans G.same s, s _ _ G.sd, s _ _ G.el, G.al.imp fun _ _ => (Same.kp s).ent, s _ _ G.tl, G.len, G.small, G.todo, G.few⟩
theorem GI.setTl {K : PySem.W.Frag} {rs : List RowD} {ls : List (Nat × Nat)} {sd el tl : Addr} {H0 H' : Hp} {es : List (Option Ent)} {ex : List V} {td td2 : List Nat} (G : GI K rs ls sd el tl H0 es ex td H') (h0 : H0 tl = none) (ne : el ≠ tl)
    (ht : ∀ t ∈ td2, ∃ e, es[t]? = some (some e)) (hf : total es + td2.length ≤ 16033 * 1000 + 1) : GI K rs ls sd el tl H0 es ex td2 (upd H' tl (.lst (ns td2))) :=
  ⟨Same.mut G.same h0, by rw [upd_ne (ne_of G.sd G.tl (by intro z; cases z))]; exact G.sd, by rw [upd_ne ne]; exact G.el, G.al.imp fun _ _ => ent_updL G.tl, upd_same, G.len, G.small, ht, hf⟩
theorem GI.setEl {K : PySem.W.Frag} {rs : List RowD} {ls : List (Nat × Nat)} {sd el tl : Addr} {H0 H' : Hp} {es : List (Option Ent)} {ex : List V} {td : List Nat} (G : GI K rs ls sd el tl H0 es ex td H') (h0 : H0 el = none) (ne : el ≠ tl)
    {i : Nat} {v : V} {e : Ent} (hi : i < es.length) (hv : EntV K H' v (some e)) (hs : Small e) (hf : total (es.set i (some e)) + td.length ≤ 16033 * 1000 + 1) : GI K rs ls sd el tl H0 (es.set i (some e)) (ex.set i v) td (upd H' el (.lst (ex.set i v))) := by
  refine ⟨Same.mut G.same h0, by rw [upd_ne (ne_of G.sd G.el (by intro z; cases z))]; exact G.sd, upd_same, (G.al.set hv).imp fun _ _ => ent_updL G.el, by rw [upd_ne (Ne.symm ne)]; exact G.tl, by rw [List.length_set]; exact G.len, fun j e' he => ?_, fun t ht => ?_, hf⟩
  · by_cases c : i = j
    · subst c
      rw [List.getElem?_set_self hi] at he
      cases he
      exact hs
    · rw [List.getElem?_set_ne c] at he
      exact G.small j e' he
  · by_cases c : i = t
    · subst c
      exact ⟨e, List.getElem?_set_self hi⟩
    · rw [List.getElem?_set_ne c]
      exact G.todo t ht
def spGuess (K : PySem.W.Frag) : Sp := fun vs H Q E => ∃ (c d : Addr) (rs : List RowD) (ls : List (Nat × Nat)), vs = [.ref c, .ref d] ∧ CodeAt K H c rs ∧ (∀ (i : Nat) (r : RowD), rs[i]? = some r → r.ok) ∧ rs.length ≤ 1000 ∧ ls.length < 64 ∧ H d = some (.dK (lsV ls)) ∧ (∀ H', Same H H' → E (NT K) none H') ∧
  ∀ H' tb es, Same H H' → H tb = none → TabAt K H' tb es ls → Q (.ref tb) H'
def GuessW (K : PySem.W.Frag) (rs : List RowD) (ls : List (Nat × Nat)) (c d sd el tl : Addr) (H0 : Hp) : Nat → L2.St → Hp → Prop := fun m σ H' => ∃ (es : List (Option Ent)) (ex : List V) (td : List Nat) (s5 s6 s7 s8 : Option V), σ = [some (.ref c), some (.ref d), some (.ref sd), some (.ref el), some (.ref tl), s5, s6, s7, s8, none, none] ∧
  GI K rs ls sd el tl H0 es ex td H' ∧ 2 * total es + td.length = m
theorem r_guess (T : Tx K mg) : FnR P w K mg base (L2.CX P w) 7 (ga K "guess") (spGuess K) := by
  refine FnR.imp (sp := fun vs H Q E => spGuess K (vs ++ [V.non].drop 1) H Q E) (fnrD (dvs := [.non]) (N := N_guess) (ps := ["code", "landings"]) 2 1 (by simp) rfl T.F_guess sc_guess (fun vs H Q E h => ?_) (fun T kV doc pm an cdv ct us its h1 h2 => ?_) (fun cdv A outer s H vs Q E hr h => ?_)) (fun vs H Q E h => by simpa using h)
  · obtain ⟨c, d, rs, ls, rfl, _⟩ := h
    rfl
  · match us, its, h1, h2 with
    | [a, b], [i], _, _ => exact ⟨_, rfl, rfl⟩
  · obtain ⟨c, d, rs, ls, rfl, hcode, hok, hfew, hls, hd, hE, k⟩ := h
    obtain ⟨cs, hcs, hal⟩ := hcode
    have hu := hu_of hr
    refine ⟨_, pss_cons (ps_set (i := 2) sc_guess.nd rfl (.inl rfl) (pe_ifExp (pt_cmpR op_isN (pv 1) pe_non (nomark _)) pe_dnewK (pe_callTy call_dictD rfl T.fr_dict (by decide +kernel) (pa_cons (pv 1) pa_nil))))
      (pss_cons (ps_setLc (i := 3) (own := [("row", 10)]) (g := gName 10) (tt := tYes) rfl sc_guess.nd rfl rfl (sw_true rfl rfl rfl (by decide +kernel)) (pi_list (pv 0)) (blkOk_by (N := N_guess) (sc := defScope s_guess) (by decide +kernel)) (fun _ _ _ _ _ => pg_name (i := 10) sc_guess.nd rfl (.inl rfl)) (fun _ _ _ _ _ => pts_nil) (fun _ _ _ _ _ => pe_non))
      (pss_cons (ps_set (i := 4) sc_guess.nd rfl (.inl rfl) (pe_lst pa_nil))
      (pss_cons (ps_if (pt_cmpR (op_neNil (Nat.lt_of_succ_lt hu)) (pv 0) (pe_lst pa_nil) (nomark _))
        (pss_cons (ps_asg (pe_glob (v := V.ref (ga K "START")) rfl T.gl_START rfl) (pg_sub (pv 3) pe_int set_list)) (pss_one (ps_expr (pe_bm PySem.F.plainAttrs_list PySem.F.slot_list_append PySem.F.type_list_append mt_append (pv 4) (pa_cons pe_int pa_nil))))) pss_nil)
      (pss_cons (ps_while (passes_of rfl) (pt_cmpR (op_neNil (Nat.lt_of_succ_lt hu)) (pv 4) (pe_lst pa_nil) (nomark _))
        (pss_cons (ps_set (i := 5) sc_guess.nd rfl (.inl rfl) (pe_bm0 PySem.F.plainAttrs_list PySem.F.slot_list_pop PySem.F.type_list_pop mt_pop (pv 4)))
        (pss_one (ps_for (passes_of rfl) rfl (pi_list (pe_f (r_ways_from T) (hr.mono (by decide)) rfl T.gl_ways_from T.kp_ways_from (passes_call (E := E) (takes_of rfl rfl rfl rfl) (fun _ _ _ _ h => h)) (pa_cons (pv 0) (pa_cons (pv 5) (pa_cons (pe_ix ix_list (pv 3) (pv 5) (fun _ _ => rfl)) (pa_cons (pv 2) pa_nil))))))
            (pg_tup rfl (pgs_cons (pg_name (i := 6) sc_guess.nd rfl (.inl rfl)) (pgs_cons (pg_name (i := 7) sc_guess.nd rfl (.inl rfl)) pgs_nil)))
          (pss_cons (ps_if (PW.pt (pw_or (pt_cmpR op_lt (pv 6) pe_int (nomark _)) (pw_or1 (pt_cmpR op_ge (pv 6) (pe_callB call_len_seq rfl T.fr_len (by decide +kernel) (pa_cons (pv 0) pa_nil)) (nomark _)))))
            (pss_one (ps_raise rfl (takes_of rfl rfl rfl rfl) (pmk_own PySem.F.excBase_ValueError T.ex_NoTable.1 T.gl_NoTable T.ex_NoTable.2.1 (raises_own T.ex_NoTable.2.2.1 T.ex_NoTable.2.2.2) rfl))) pss_nil)
          (pss_cons (ps_set (i := 8) sc_guess.nd rfl (.inl rfl) (pe_f (r_entry_of_both T) (hr.mono (by decide)) rfl T.gl_entry_of_both T.kp_entry_of_both (passes_call (E := E) (takes_of rfl rfl rfl rfl) (fun _ _ _ _ h => h)) (pa_cons (pe_ix ix_list (pv 3) (pv 6) (fun _ _ => rfl)) (pa_cons (pv 7) pa_nil))))
          (pss_one (ps_if (pt_cmpR (op_neD hr.units) (pv 8) (pe_ix ix_list (pv 3) (pv 6) (fun _ _ => rfl)) (nomark _))
            (pss_cons (ps_asg (pv 8) (pg_sub (pv 3) (pv 6) set_list)) (pss_one (ps_expr (pe_bm PySem.F.plainAttrs_list PySem.F.slot_list_append PySem.F.type_list_append mt_append (pv 4) (pa_cons (pv 6) pa_nil))))) pss_nil))))))))
      (pss_cons (ps_set (i := 9) sc_guess.nd rfl (.inl rfl) (StX.pe_makeR T.mk_Table (r_Table_init T) (hr.mono (by decide)) rfl T.gl_Table pass0 (pa_cons (pv 3) (pa_cons (pv 2) pa_nil))))
      (pss_cons (ps_if (pt_cmpR (op_neNil (Nat.lt_of_succ_lt hu)) (pe_f (r_checked T) hr rfl T.gl_checked T.kp_checked pass0 (pa_cons (pv 0) (pa_cons (pv 9) pa_nil))) (pe_lst pa_nil) (nomark _))
        (pss_one (ps_raise rfl (takes_of rfl rfl rfl rfl) (pmk_own PySem.F.excBase_ValueError T.ex_NoTable.1 T.gl_NoTable T.ex_NoTable.2.1 (raises_own T.ex_NoTable.2.2.1 T.ex_NoTable.2.2.2) rfl))) pss_nil)
      (pss_one (ps_ret (pv 9))))))))), ?_⟩
    refine ⟨_, rfl, rfl, _, rfl, iteF ⟨_, rfl, d, _, rfl, .inl hd, fun sd hsd => ?_⟩⟩
    have s1 := Same.new (o := .dK (lsV ls)) hsd
    refine ⟨_, rfl, c, rfl, ⟨_, SqL.of (s1 _ _ hcs)⟩, fun el hel => ?_⟩
    have hel0 := Same.back s1 hel
    have nce : c ≠ el := ne_of_none hcs hel0
    refine lc_list (K := K) (a := c) (xs := cs) (fun n H' => Same (upd H sd (.dK (lsV ls))) H' ∧ H' el = some (.lst (List.replicate n .non))) ⟨Same.new hel, upd_same⟩ (fun n H' _ ⟨sm, _⟩ => SqL.of (sm _ _ (s1 _ _ hcs))) (fun n x H' hxn ⟨sm, hl⟩ => ?_) (fun H' ⟨sm, hl⟩ => ?_)
    · have hn := (List.getElem?_eq_some_iff.mp hxn).1
      have := hal.1
      refine ⟨rfl, _, hl, lt_size (by simp; omega), Same.mut sm hel, ?_⟩
      rw [upd_same, List.replicate_succ']
    · have sm1 := Same.trans s1 sm
      refine ⟨(by show 0 ≤ sizeLine; decide), fun tl htl => ?_⟩
      have s2 := Same.new (o := .lst []) htl
      have htl0 := Same.back sm1 htl
      have net : el ≠ tl := ne_of_none hl htl
      have sm2 := Same.trans sm1 s2
      have hlen := hal.1
      have G0 : GI K rs ls sd el tl H (List.replicate rs.length none) (List.replicate cs.length .non) [] (upd H' tl (.lst [])) := by
        refine ⟨sm2, s2 _ _ (sm _ _ upd_same), s2 _ _ hl, ⟨by simp [hlen], fun i q hq => ?_⟩, upd_same, by simp, fun i e he => ?_, fun t ht => (by cases ht), ?_⟩
        · rw [List.getElem?_replicate] at hq
          by_cases ci : i < rs.length
          · rw [if_pos ci] at hq
            cases hq
            exact ⟨.non, by rw [List.getElem?_replicate, if_pos (by omega)], rfl⟩
          · rw [if_neg ci] at hq
            cases hq
        · rw [List.getElem?_replicate] at he
          by_cases ci : i < rs.length
          · rw [if_pos ci] at he
            cases he
          · rw [if_neg ci] at he
            cases he
        · rw [total_none]
          simp
          omega
      dsimp only [gName, tNext]
      refine seq_join (t := tIfS _ _ _) (fun σ H2 => ∃ m, GuessW K rs ls c d sd el tl H m σ H2) (fun σ H2 ⟨m0, hW⟩ => ?_) (fun N rest => ?_)
      · refine seq_join (t := tWhile _ _) (fun σ H2 => ∃ m, GuessW K rs ls c d sd el tl H m σ H2) (fun σ H2 ⟨m1, hW1⟩ => ?_) (fun N rest => ?_)
        · obtain ⟨es, ex, td, s5, s6, s7, s8, rfl, G, hm⟩ := hW1
          refine ⟨_, rfl, _, rfl, fun x dx hxn hdn hne => ⟨x, dx, el, sd, ex, lsV ls, rfl, upd_same, ?_, ?_, fun H3 el' sd' hx3 hbut hel3 hsd3 hfr => ⟨rfl, ?_⟩⟩⟩
          · rw [upd_ne (ne_of_none G.el hxn), upd_ne (ne_of_none G.el hdn)]
            exact G.el
          · rw [upd_ne (ne_of_none G.sd hxn), upd_ne (ne_of_none G.sd hdn)]
            exact G.sd
          have s3 : Same H2 H3 := fun b o hb => hbut b o (by
            rw [upd_ne (ne_of_none hb hxn), upd_ne (ne_of_none hb hdn)]
            exact hb) (ne_of_none hb hxn)
          have s03 := Same.trans G.same s3
          have htab : TabAt K H3 x es ls := ⟨dx, el', sd', ex, hx3, hel3, G.al.imp fun _ _ => (Same.kp s3).ent, hsd3⟩
          have hx0 := Same.back G.same hxn
          refine ⟨_, rfl, _, rfl, c, x, rs, es, ls, rfl, ⟨⟨cs, s03 _ _ hcs, hal.imp fun _ _ => (Same.kp s03).rowV⟩, htab, hok, by omega⟩, hls, fun H4 p zs s4 hpn hp hz => ?_⟩
          refine ⟨(by show 0 ≤ sizeLine; decide), fun ep hep => ?_⟩
          have s5 := Same.new (o := .lst []) hep
          refine ⟨p, ep, zs, rfl, rfl, SqL.of (s5 _ _ hp), SqL.of upd_same, _, rfl, ?_⟩
          refine ite2 (fun _ => hE _ (Same.trans s03 (Same.trans s4 s5))) (fun _ => ⟨_, rfl, k _ x es (Same.trans s03 (Same.trans s4 s5)) hx0 ((Same.kp (Same.trans s4 s5)).tab htab)⟩)
        · refine ⟨GuessW K rs ls c d sd el tl H, ⟨m0, hW⟩, fun m σ1 H1 hW1 => ?_⟩
          obtain ⟨es, ex, td, s5, s6, s7, s8, rfl, G, hm⟩ := hW1
          refine ⟨_, rfl, (by show 0 ≤ sizeLine; decide), fun ep hep => ?_⟩
          have se := Same.new (o := .lst []) hep
          have G := G.step se
          refine ⟨tl, ep, ns td, rfl, rfl, SqL.of G.tl, SqL.of upd_same, _, rfl, ?_⟩
          rcases List.eq_nil_or_concat td with rfl | ⟨td', t, rfl⟩
          · exact iteF (rest _ _ ⟨m, es, ex, [], s5, s6, s7, s8, rfl, G, hm⟩)
          · rw [show (ns (td'.concat t)).isEmpty = false by simp [ns]]
            rw [List.concat_eq_append] at hm G
            refine iteT ⟨fun σ' H' => ∃ m', m' < m ∧ GuessW K rs ls c d sd el tl H m' σ' H', fun _ _ h => h, ?_⟩
            have hlm : (td' ++ [t]).length = td'.length + 1 := by simp
            refine ⟨_, rfl, .inl ⟨rfl, _, SqL.of G.tl⟩, tl, _, vi t, rfl, rfl, G.tl, by simp [ns], ?_⟩
            have G1 := G.setTl (td2 := td') htl0 net (fun q hq => G.todo q (List.mem_append_left _ hq)) (by have := G.few; omega)
            rw [show (ns (td' ++ [t])).dropLast = ns td' by simp [ns]]
            obtain ⟨e, he⟩ := G.todo t (List.mem_append_right _ (List.mem_singleton.mpr rfl))
            have htlt : t < rs.length := by rw [← G.len]; exact (List.getElem?_eq_some_iff.mp he).1
            have hri := List.getElem?_eq_getElem htlt
            obtain ⟨ve, hve, heV⟩ := G1.al.2 _ _ he
            have hcode1 : CodeAt K _ c rs := ⟨cs, G1.same _ _ hcs, hal.imp fun _ _ => (Same.kp G1.same).rowV⟩
            refine ⟨_, rfl, _, rfl, _, rfl, _, rfl, el, ex, _, _, rfl, rfl, sl G1.el, at_nat rfl hve, _, rfl, c, sd, t, ve, rs, ls, _, e, rfl, hcode1, hri, hok _ _ hri, heV, G.small t e he, G1.sd, fun H' s => hE H' (Same.trans G1.same s), fun H2 p ws l s2 hpn hp hwl hsml => ?_⟩
            have G2 := G1.step s2
            have npe : p ≠ el := Ne.symm (ne_of_none G1.el hpn)
            have npt : p ≠ tl := Ne.symm (ne_of_none G1.tl hpn)
            refine ⟨p, rfl, ⟨_, SqL.of hp⟩, ?_⟩
            refine for_list (K := K) (a := p) (xs := ws) (fun n σ H' => ∃ (es' : List (Option Ent)) (ex' : List V) (td2 : List Nat) (s6 s7 s8 : Option V), σ = [some (.ref c), some (.ref d), some (.ref sd), some (.ref el), some (.ref tl), some (vi t), s6, s7, s8, none, none] ∧
              GI K rs ls sd el tl H es' ex' td2 H' ∧ H' p = some (.lst ws) ∧ Al (WayV K H') ws l ∧ 2 * total es' + td2.length ≤ 2 * total es + td'.length) ⟨es, ex, td', s6, s7, s8, rfl, G2, hp, hwl, Nat.le_refl _⟩ (fun n σ H' _ ⟨_, _, _, _, _, _, _, _, h, _⟩ => SqL.of h) (fun n x σ H' hxn ⟨es', ex', td2, s6, s7, s8, eσ, G3, hp3, hwl3, hle⟩ => ?_) (fun σ H' ⟨es', ex', td2, s6, s7, s8, eσ, G3, hp3, hwl3, hle⟩ => ?_)
            · subst eσ
              obtain ⟨q, hq, t', u, rfl, htq, huV⟩ := hwl3.back hxn
              refine ⟨t', _, rfl, htq, rfl, _, _, rfl, _, _, rfl, rfl, ?_⟩
              refine ⟨_, rfl, _, _, rfl, rfl, _, rfl, ?_⟩
              rw [decide_eq_false (show ¬ (q.1 : Int) < 0 by omega)]
              refine iteF ⟨_, rfl, _, rfl, c, cs, rfl, .inl (sl (G3.same _ _ hcs)), _, _, rfl, rfl, _, rfl, ?_⟩
              by_cases cq : q.1 < rs.length
              · rw [decide_eq_false (show ¬ (cs.length : Int) ≤ (q.1 : Int) by omega)]
                have hq1 : q.1 < es'.length := by rw [G3.len]; exact cq
                have hoe : es'[q.1]? = some es'[q.1] := List.getElem?_eq_getElem hq1
                generalize es'[q.1] = o at hoe
                obtain ⟨vo', hvo, hoV⟩ := G3.al.2 _ _ hoe
                refine iteF ⟨_, rfl, _, rfl, el, ex', _, _, rfl, rfl, sl G3.el, at_nat rfl hvo, _, rfl, vo', u, o, q.2, rfl, hoV, huV, fun H' s => hE H' (Same.trans G3.same s), fun H4 z s4 hz => ?_⟩
                have G4 := G3.step s4
                have hwl4 := hwl3.imp fun _ _ => (Same.kp s4).way
                refine ⟨_, rfl, _, rfl, _, rfl, el, ex', _, _, rfl, rfl, sl G4.el, at_nat rfl hvo, entD _, entD o, entD_dp hz, entD_dp ((Same.kp s4).ent hoV), entD_shaped _, entD_shaped _, _, rfl, ?_⟩
                by_cases ceq : some (meetN o q.2) = o
                · rw [(entD_eqv _ _).mpr ceq]
                  exact iteF ⟨es', ex', td2, _, _, _, rfl, G4, s4 _ _ hp3, hwl4, hle⟩
                · rw [show PyData.eqv (entD (some (meetN o q.2))) (entD o) = false from Bool.eq_false_iff.mpr (fun z => ceq ((entD_eqv _ _).mp z))]
                  have hsmo : ∀ a, o = some a → Small a := fun a ea => by
                    subst ea
                    exact G3.small _ _ hoe
                  have hrk := rank_meet hsmo ceq
                  have htot := total_set es' q.1 o (some (meetN o q.2)) hoe
                  have hfew3 := G3.few
                  have hsmq : Small q.2 := hsml q (List.mem_of_getElem? hq)
                  have G5 := G4.setEl hel0 net hq1 hz (meet_small hsmo hsmq) (by omega)
                  have hexl : ex'.length = rs.length := by rw [G3.al.1, G3.len]
                  refine iteT ⟨_, rfl, _, rfl, _, rfl, el, ex', _, q.1, rfl, rfl, G4.el, ixN_nat (by omega), ?_⟩
                  have htd : ∀ y ∈ td2 ++ [q.1], ∃ e, (es'.set q.1 (some (meetN o q.2)))[y]? = some (some e) := fun y hy => by
                    rcases List.mem_append.mp hy with hy | hy
                    · exact G5.todo y hy
                    · rw [List.mem_singleton.mp hy]
                      exact ⟨_, List.getElem?_set_self hq1⟩
                  have G6 := G5.setTl (td2 := td2 ++ [q.1]) htl0 net htd (by simp; omega)
                  refine ⟨_, rfl, .inl ⟨rfl, _, SqL.of G5.tl⟩, _, rfl, tl, _, _, rfl, rfl, G5.tl, by rw [sizeLine_eq, List.length_map]; omega, ?_⟩
                  rw [show ns td2 ++ [vi q.1] = ns (td2 ++ [q.1]) by simp [ns]]
                  refine ⟨_, _, td2 ++ [q.1], _, _, _, rfl, G6, ?_, ?_, by simp; omega⟩
                  · rw [upd_ne npt, upd_ne npe]
                    exact s4 _ _ hp3
                  · exact (hwl4.imp fun _ _ => way_updL G4.el).imp fun _ _ => way_updL G5.tl
              · rw [decide_eq_true (show (cs.length : Int) ≤ (q.1 : Int) by omega)]
                exact iteT (hE _ G3.same)
            · subst eσ
              exact ⟨_, by omega, es', ex', td2, _, _, _, _, rfl, G3, rfl⟩
      · refine ⟨_, rfl, (by show 0 ≤ sizeLine; decide), fun ep hep => ?_⟩
        have se := Same.new (o := .lst []) hep
        have G1 := G0.step se
        refine ⟨c, ep, cs, rfl, rfl, SqL.of (G1.same _ _ hcs), SqL.of upd_same, _, rfl, ?_⟩
        cases rs with
        | nil =>
          have : cs = [] := List.eq_nil_of_length_eq_zero hlen
          subst this
          exact iteF (rest _ _ ⟨_, _, _, _, _, _, _, _, rfl, G1, rfl⟩)
        | cons r0 rs0 =>
          have hcs0 : cs ≠ [] := by
            intro z
            subst z
            simp at hlen
          have : cs.isEmpty = false := by cases cs with
            | nil => exact absurd rfl hcs0
            | cons _ _ => rfl
          rw [this]
          have hc0 : 0 < cs.length := by rw [hlen]; simp
          have htot := total_set (List.replicate (r0 :: rs0).length none) 0 none (some START) (by rw [List.getElem?_replicate]; simp)
          have hrs := rank_le (some START)
          have hfew0 := G1.few
          have hr0 : rank none = 16033 := rfl
          have G2 := G1.setEl hel0 net (i := 0) (by simp) (T.start _) START_small (by omega)
          refine iteT ⟨_, rfl, el, _, _, 0, rfl, rfl, G1.el, ixN_nat (i := 0) (by simpa using hc0), ?_⟩
          have hS : cnt START.b 4008 + cnt START.x4 4008 + cnt START.x5 4008 + cnt START.x6 4008 + 1 ≤ 16033 := by
            have l1 := cnt_le START.b 4008
            have l2 := cnt_le START.x4 4008
            have l3 := cnt_le START.x5 4008
            have l4 := cnt_le START.x6 4008
            omega
          have hS2 : rank (some START) + 1 ≤ 16033 := hS
          have G3 := G2.setTl (td2 := [0]) htl0 net (fun y hy => by
            rw [List.mem_singleton.mp hy]
            exact ⟨START, List.getElem?_set_self (by simp)⟩) (by
            have : ([] : List Nat).length = 0 := rfl
            have : ([0] : List Nat).length = 1 := rfl
            omega)
          exact ⟨_, rfl, .inl ⟨rfl, _, SqL.of G2.tl⟩, tl, _, _, rfl, rfl, G2.tl, lt_size (by simp), rest _ _ ⟨_, _, _, _, _, _, _, _, rfl, G3, rfl⟩⟩
end
end Fb

set_option Elab.async false
set_option linter.all false
set_option maxRecDepth 100000
set_option maxHeartbeats 4000000
namespace Fb
open PySem PySem.Spec PyProof.Rows L2
open He (ga ma)
/-! ### the machine -/
abbrev MF (c tb : Addr) (home place : Nat) (hl cl ca : Addr) (lost : V) (st : Str) : List (Str × V) :=
  [("code", .ref c), ("table", .ref tb), ("home", vi home), ("place", vi place), ("held", .ref hl), ("cells", .ref cl), ("calls", .ref ca), ("lost", lost), ("state", .str st)]
structure Ma (K : PySem.W.Frag) (H : Hp) (m : Addr) (rs : List RowD) (es : List (Option Ent)) (ls : List (Nat × Nat)) (place : Nat) (bs pile : List Nat) (lost : V) (st : Str) (n : Nat) (dx c tb hl cl ca : Addr) (cs : List V) : Prop where
  at_ : H m = some (.ins (ga K "Machine") dx (MF c tb rs.length place hl cl ca lost st))
  lay : Lay K H c tb rs es ls
  held : H hl = some (.lst (ns bs))
  cells : H cl = some (.lst (ns pile))
  calls : H ca = some (.lst cs)
  few : cs.length ≤ n
def MachAt (K : PySem.W.Frag) (H : Hp) (m : Addr) (rs : List RowD) (es : List (Option Ent)) (ls : List (Nat × Nat)) (place : Nat) (bs pile : List Nat) (lost : V) (st : Str) (n : Nat) : Prop := ∃ dx c tb hl cl ca cs, Ma K H m rs es ls place bs pile lost st n dx c tb hl cl ca cs
theorem Ma.same {K : PySem.W.Frag} {H H' : Hp} {m : Addr} {rs : List RowD} {es : List (Option Ent)} {ls : List (Nat × Nat)} {place : Nat} {bs pile : List Nat} {lost : V} {st : Str} {n : Nat} {dx c tb hl cl ca : Addr} {cs : List V}
    (M : Ma K H m rs es ls place bs pile lost st n dx c tb hl cl ca cs) (s : Same H H') : Ma K H' m rs es ls place bs pile lost st n dx c tb hl cl ca cs := ⟨s _ _ M.at_, M.lay.kp (Same.kp s), s _ _ M.held, s _ _ M.cells, s _ _ M.calls, M.few⟩
theorem But.refl {x : Addr} {H : Hp} : But x H H := fun _ _ e _ => e
theorem But.trans {x : Addr} {H H' H'' : Hp} (a : But x H H') (b : But x H' H'') : But x H H'' := fun y o e n => b y o (a y o e n) n
theorem Same.but {x : Addr} {H H' : Hp} (a : Same H H') : But x H H' := fun y o e _ => a y o e
/-- a great instance alone has changed -/
theorem But.kp {x C dx : Addr} {fs : List (Str × V)} {H H' : Hp} (a : But x H H') (h : H x = some (.ins C dx fs)) (hf : 3 < fs.length) : Kp H H' := fun y o e n => a y o e (by
  intro z
  subst z
  rw [h] at e
  cases e
  exact absurd (n _ _ _ rfl) (by omega))
theorem Same.butS {x : Addr} {H0 H H' : Hp} (s : Same H0 H) (b : But x H H') (h : H0 x = none) : Same H0 H' := fun y o e => b y o (s y o e) (ne_of_none e h)
section
variable {P : Program} {w : World} {K : PySem.W.Frag} {mg : Str → Option Value} {base : Heap}
/-- a field is told -/
def spTell (K : PySem.W.Frag) (fld : Str) : Sp := fun vs H Q _ => ∃ (m dx c tb hl cl ca : Addr) (home place : Nat) (lost v : V) (st : Str), vs = [.ref m] ∧ H m = some (.ins (ga K "Machine") dx (MF c tb home place hl cl ca lost st)) ∧ (MF c tb home place hl cl ca lost st).lookup fld = some v ∧ Q v H
theorem r_at (T : Tx K mg) : FnR P w K mg base CX0 1 (ma K (ga K "Machine") "at") (spTell K "place") := by
  refine fnr0 T.F_Machine_at sc_Machine_at (fun vs H Q E h => ?_) hb_Machine_at (fun cdv A outer s H vs Q E hr h => ?_)
  · obtain ⟨m, _, _, _, _, _, _, _, _, _, _, _, rfl, _⟩ := h
    rfl
  · obtain ⟨m, dx, c, tb, hl, cl, ca, home, place, lost, v, st, rfl, hm, hv, k⟩ := h
    refine ⟨_, pss_one (ps_ret (pe_fld (pv 0) rfl)), ?_⟩
    exact ⟨_, rfl, m, _, dx, _, _, rfl, hm, T.cl_Machine, T.no_Machine_place, hv, k⟩
theorem r_word (T : Tx K mg) : FnR P w K mg base CX0 1 (ma K (ga K "Machine") "word") (spTell K "state") := by
  refine fnr0 T.F_Machine_word sc_Machine_word (fun vs H Q E h => ?_) hb_Machine_word (fun cdv A outer s H vs Q E hr h => ?_)
  · obtain ⟨m, _, _, _, _, _, _, _, _, _, _, _, rfl, _⟩ := h
    rfl
  · obtain ⟨m, dx, c, tb, hl, cl, ca, home, place, lost, v, st, rfl, hm, hv, k⟩ := h
    refine ⟨_, pss_one (ps_ret (pe_fld (pv 0) rfl)), ?_⟩
    exact ⟨_, rfl, m, _, dx, _, _, rfl, hm, T.cl_Machine, T.no_Machine_state, hv, k⟩
theorem r_fault (T : Tx K mg) : FnR P w K mg base CX0 1 (ma K (ga K "Machine") "fault") (spTell K "lost") := by
  refine fnr0 T.F_Machine_fault sc_Machine_fault (fun vs H Q E h => ?_) hb_Machine_fault (fun cdv A outer s H vs Q E hr h => ?_)
  · obtain ⟨m, _, _, _, _, _, _, _, _, _, _, _, rfl, _⟩ := h
    rfl
  · obtain ⟨m, dx, c, tb, hl, cl, ca, home, place, lost, v, st, rfl, hm, hv, k⟩ := h
    refine ⟨_, pss_one (ps_ret (pe_fld (pv 0) rfl)), ?_⟩
    exact ⟨_, rfl, m, _, dx, _, _, rfl, hm, T.cl_Machine, T.no_Machine_lost, hv, k⟩
/-- a list of a field is copied -/
def spTellL (K : PySem.W.Frag) (fld : Str) : Sp := fun vs H Q _ => ∃ (m dx c tb hl cl ca p : Addr) (home place : Nat) (lost : V) (st : Str) (xs : List V), vs = [.ref m] ∧ H m = some (.ins (ga K "Machine") dx (MF c tb home place hl cl ca lost st)) ∧ (MF c tb home place hl cl ca lost st).lookup fld = some (.ref p) ∧ H p = some (.lst xs) ∧
  ∀ H' q, Same H H' → H q = none → H' q = some (.lst xs) → Q (.ref q) H'
theorem r_boxes (T : Tx K mg) : FnR P w K mg base CX0 1 (ma K (ga K "Machine") "boxes") (spTellL K "held") := by
  refine fnr0 T.F_Machine_boxes sc_Machine_boxes (fun vs H Q E h => ?_) hb_Machine_boxes (fun cdv A outer s H vs Q E hr h => ?_)
  · obtain ⟨m, _, _, _, _, _, _, _, _, _, _, _, _, rfl, _⟩ := h
    rfl
  · obtain ⟨m, dx, c, tb, hl, cl, ca, p, home, place, lost, st, xs, rfl, hm, hv, hp, k⟩ := h
    refine ⟨_, pss_one (ps_ret (pe_callTy call_list_of rfl T.fr_list (by decide +kernel) (pa_cons (pe_fld (pv 0) rfl) pa_nil))), ?_⟩
    exact ⟨_, rfl, m, _, dx, _, _, rfl, hm, T.cl_Machine, T.no_Machine_held, hv, p, _, rfl, .inl (sl hp), fun q hq => k _ q (Same.new hq) hq upd_same⟩
theorem r_pile (T : Tx K mg) : FnR P w K mg base CX0 1 (ma K (ga K "Machine") "pile") (spTellL K "cells") := by
  refine fnr0 T.F_Machine_pile sc_Machine_pile (fun vs H Q E h => ?_) hb_Machine_pile (fun cdv A outer s H vs Q E hr h => ?_)
  · obtain ⟨m, _, _, _, _, _, _, _, _, _, _, _, _, rfl, _⟩ := h
    rfl
  · obtain ⟨m, dx, c, tb, hl, cl, ca, p, home, place, lost, st, xs, rfl, hm, hv, hp, k⟩ := h
    refine ⟨_, pss_one (ps_ret (pe_callTy call_list_of rfl T.fr_list (by decide +kernel) (pa_cons (pe_fld (pv 0) rfl) pa_nil))), ?_⟩
    exact ⟨_, rfl, m, _, dx, _, _, rfl, hm, T.cl_Machine, T.no_Machine_cells, hv, p, _, rfl, .inl (sl hp), fun q hq => k _ q (Same.new hq) hq upd_same⟩
/-! ### go_on -/
def stOf (home nx : Nat) : Str := if nx = home then "ended" else "runs"
def spGoOn (K : PySem.W.Frag) : Sp := fun vs H Q _ => ∃ (m dx c tb hl cl ca hl' cl' : Addr) (home place nx : Nat) (lost : V), vs = [.ref m, vi nx, .ref hl', .ref cl'] ∧ H m = some (.ins (ga K "Machine") dx (MF c tb home place hl cl ca lost "runs")) ∧
  ∀ H', But m H H' → H' m = some (.ins (ga K "Machine") dx (MF c tb home nx hl' cl' ca lost (stOf home nx))) → Q .non H'
theorem r_go_on (T : Tx K mg) : FnR P w K mg base CX0 1 (ma K (ga K "Machine") "go_on") (spGoOn K) := by
  refine fnr0 T.F_Machine_go_on sc_Machine_go_on (fun vs H Q E h => ?_) hb_Machine_go_on (fun cdv A outer s H vs Q E hr h => ?_)
  · obtain ⟨m, _, _, _, _, _, _, _, _, _, _, _, _, rfl, _⟩ := h
    rfl
  · obtain ⟨m, dx, c, tb, hl, cl, ca, hl', cl', home, place, nx, lost, rfl, hm, k⟩ := h
    refine ⟨_, pss_cons (ps_fld (pv 0) (pv 1) rfl) (pss_cons (ps_fld (pv 0) (pv 2) rfl) (pss_cons (ps_fld (pv 0) (pv 3) rfl)
      (pss_one (ps_if (pt_cmpR op_eq (pv 1) (pe_fld (pv 0) rfl) (nomark _)) (pss_one (ps_fld (pv 0) pe_str rfl)) pss_nil)))), ?_⟩
    refine ⟨_, rfl, _, rfl, m, _, dx, _, rfl, hm, T.cl_Machine, T.no_Machine_place, (by show 9 < 1000; decide), ?_⟩
    refine ⟨_, rfl, _, rfl, m, _, dx, _, rfl, upd_same, T.cl_Machine, T.no_Machine_held, (by show 9 < 1000; decide), ?_⟩
    refine ⟨_, rfl, _, rfl, m, _, dx, _, rfl, upd_same, T.cl_Machine, T.no_Machine_cells, (by show 9 < 1000; decide), ?_⟩
    refine ⟨_, rfl, _, rfl, m, _, dx, _, _, rfl, upd_same, T.cl_Machine, T.no_Machine_home, rfl, rfl, _, rfl, ?_⟩
    have e : decide (vi nx = vi home) = decide (nx = home) := decide_eq_decide.mpr ⟨fun z => by have := V.int.inj z; omega, fun z => by rw [z]⟩
    rw [e]
    by_cases cn : nx = home
    · rw [decide_eq_true cn]
      refine iteT ⟨_, rfl, m, _, dx, _, rfl, upd_same, T.cl_Machine, T.no_Machine_state, (by show 9 < 1000; decide), k _ (But.upd (But.upd (But.upd (But.upd But.refl)))) ?_⟩
      rw [show stOf home nx = ("ended" : Str) from if_pos cn]
      exact upd_same
    · rw [decide_eq_false cn]
      refine iteF (k _ (But.upd (But.upd (But.upd But.refl))) ?_)
      rw [show stOf home nx = ("runs" : Str) from if_neg cn]
      exact upd_same
/-! ### land -/
def spLand (K : PySem.W.Frag) : Sp := fun vs H Q _ => ∃ (m ra kt dx c tb hl cl ca : Addr) (j ln many b place n : Nat) (kk : K3) (rs : List RowD) (es : List (Option Ent)) (ls : List (Nat × Nat)) (bs pile : List Nat) (lost : V) (cs : List V),
  vs = [.ref m, .ref ra, vi j, .ref kt, vi ln, vi many] ∧ Ma K H m rs es ls place bs pile lost "runs" n dx c tb hl cl ca cs ∧ RowAt K H ra (.drop b) ∧ b ≤ 7 ∧ bs.length = 8 ∧ j ≤ rs.length ∧ ln ≤ pile.length ∧ H kt = some (.tup [vi kk.1, vi kk.2.1, vi kk.2.2]) ∧
  ∀ H', Kp H H' → MachAt K H' m rs es ls j (landBoxes bs b kk) (pile.take ln) lost (stOf rs.length j) n → Q .non H'
theorem r_land (T : Tx K mg) : FnR P w K mg base CX0 2 (ma K (ga K "Machine") "land") (spLand K) := by
  refine fnr0 T.F_Machine_land sc_Machine_land (fun vs H Q E h => ?_) hb_Machine_land (fun cdv A outer s H vs Q E hr h => ?_)
  · obtain ⟨m, _, _, _, _, _, _, _, _, _, _, _, _, _, _, _, _, _, _, _, _, _, _, rfl, _⟩ := h
    rfl
  · obtain ⟨m, ra, kt, dx, c, tb, hl, cl, ca, j, ln, many, b, place, n, kk, rs, es, ls, bs, pile, lost, cs, rfl, M, hra, hb, hbs, hj, hln, hkt, k⟩ := h
    obtain ⟨dr, hra⟩ := hra
    refine ⟨_, pss_cons (ps_if (PW.pt (pw_or (pt_cmpR op_lt (pv 2) pe_int (nomark _)) (pw_or1 (pt_cmpR op_gt (pv 2) (pe_fld (pv 0) rfl) (nomark _))))) pss_never pss_nil)
      (pss_cons (ps_set (i := 6) sc_Machine_land.nd rfl (.inl rfl) (pe_callTy call_list_of rfl T.fr_list (by decide +kernel) (pa_cons (pe_fld (pv 0) rfl) pa_nil)))
      (pss_cons (ps_asg (pe_ix ix_list (pe_fld (pv 0) rfl) (pe_fld (pv 1) rfl) (fun _ _ => rfl)) (pg_sub (pv 6) pe_int set_list))
      (pss_cons (ps_asg (pe_ix ix_tup (pv 3) pe_int (fun _ _ => rfl)) (pg_sub (pv 6) pe_int set_list))
      (pss_cons (ps_asg (pe_ix ix_tup (pv 3) pe_int (fun _ _ => rfl)) (pg_sub (pv 6) pe_int set_list))
      (pss_cons (ps_asg (pe_ix ix_tup (pv 3) pe_int (fun _ _ => rfl)) (pg_sub (pv 6) pe_int set_list))
      (pss_cons (ps_fld (pv 0) (pe_slice sl_list (pe_fld (pv 0) rfl) (po_some (pv 5)) po_none) rfl)
      (pss_one (ps_expr (pe_methR (pv 0) T.cl_Machine T.me_Machine_go_on (r_go_on T) hr pass0 (pa_cons (pv 2) (pa_cons (pv 6) (pa_cons (pe_slice sl_list (pe_fld (pv 0) rfl) po_none (po_some (pv 4))) pa_nil)))))))))))), ?_⟩
    refine ⟨_, rfl, _, _, rfl, rfl, _, rfl, ?_⟩
    rw [decide_eq_false (show ¬ (j : Int) < 0 by omega)]
    refine iteF ⟨_, rfl, _, rfl, m, _, dx, _, _, rfl, M.at_, T.cl_Machine, T.no_Machine_home, rfl, _, _, rfl, rfl, _, rfl, ?_⟩
    rw [decide_eq_false (show ¬ (rs.length : Int) < (j : Int) by omega)]
    refine iteF ⟨_, rfl, m, _, dx, _, _, rfl, M.at_, T.cl_Machine, T.no_Machine_held, rfl, hl, _, rfl, .inl (sl M.held), fun h2 hh2 => ?_⟩
    have s1 := Same.new (o := .lst (ns bs)) hh2
    have M1 := M.same s1
    have n2m : m ≠ h2 := ne_of_none M.at_ hh2
    have n2h : hl ≠ h2 := ne_of_none M.held hh2
    refine ⟨_, rfl, m, _, dx, _, _, rfl, M1.at_, T.cl_Machine, T.no_Machine_held, rfl, _, rfl, ra, _, dr, _, _, rfl, s1 _ _ hra, T.cl_Drop, T.no_Drop_box, rfl, hl, _, _, _, rfl, rfl, sl M1.held, atN (by omega), ?_⟩
    have hl8 : (ns bs).length = 8 := by simp [hbs]
    refine ⟨_, rfl, h2, _, _, 0, rfl, rfl, upd_same, ixN_nat (i := 0) (by omega), ?_⟩
    have s2 : Same H _ := Same.mut (o := .lst ((ns bs).set 0 (vi (bs.getD b 0)))) s1 hh2
    refine ⟨_, rfl, kt, _, _, vi kk.1, rfl, rfl, SqT.of (s2 _ _ hkt), rfl, _, rfl, h2, _, _, 4, rfl, rfl, upd_same, ixN_nat (i := 4) (by simp [hbs]), ?_⟩
    have s3 : Same H _ := Same.mut (o := .lst (((ns bs).set 0 (vi (bs.getD b 0))).set 4 (vi kk.1))) s2 hh2
    refine ⟨_, rfl, kt, _, _, vi kk.2.1, rfl, rfl, SqT.of (s3 _ _ hkt), rfl, _, rfl, h2, _, _, 5, rfl, rfl, upd_same, ixN_nat (i := 5) (by simp [hbs]), ?_⟩
    have s4 : Same H _ := Same.mut (o := .lst ((((ns bs).set 0 (vi (bs.getD b 0))).set 4 (vi kk.1)).set 5 (vi kk.2.1))) s3 hh2
    refine ⟨_, rfl, kt, _, _, vi kk.2.2, rfl, rfl, SqT.of (s4 _ _ hkt), rfl, _, rfl, h2, _, _, 6, rfl, rfl, upd_same, ixN_nat (i := 6) (by simp [hbs]), ?_⟩
    have s5 : Same H _ := Same.mut (o := .lst (((((ns bs).set 0 (vi (bs.getD b 0))).set 4 (vi kk.1)).set 5 (vi kk.2.1)).set 6 (vi kk.2.2))) s4 hh2
    have M5 := M.same s5
    refine ⟨_, rfl, m, _, dx, _, _, rfl, M5.at_, T.cl_Machine, T.no_Machine_calls, rfl, _, rfl, _, rfl, ca, cs, rfl, sl M5.calls, fun ca' hca => ?_⟩
    have s6 := Same.new (o := .lst (cutV cs (some (many : Int)) none)) hca
    have M6 := M5.same s6
    have nca : m ≠ ca' := ne_of_none M5.at_ hca
    refine ⟨_, rfl, m, _, dx, _, rfl, M6.at_, T.cl_Machine, T.no_Machine_calls, (by show 9 < 1000; decide), ?_⟩
    have ncl : cl ≠ m := ne_of M6.cells M6.at_ (by intro z; cases z)
    refine ⟨_, rfl, m, dx, _, rfl, upd_same, rfl, _, rfl, _, rfl, _, rfl, m, _, dx, _, _, rfl, upd_same, T.cl_Machine, T.no_Machine_cells, rfl, _, rfl, _, rfl, cl, ns pile, rfl, sl (by rw [upd_ne ncl]; exact M6.cells), fun cl' hcl => ?_⟩
    have ncl' : m ≠ cl' := ne_of_none upd_same hcl
    have s8 := Same.new (o := .lst (cutV (ns pile) none (some (ln : Int)))) hcl
    refine ⟨m, dx, c, tb, hl, cl, ca', h2, cl', rs.length, place, j, lost, rfl, s8 _ _ upd_same, fun H9 b9 hm9 => ?_⟩
    have b69 : But m _ H9 := But.trans (But.upd (o := .ins (ga K "Machine") dx (MF c tb rs.length place hl cl ca' lost "runs")) But.refl) (But.trans (Same.but s8) b9)
    have kp69 := But.kp b69 M6.at_ (by show 3 < 9; decide)
    have kp9 : Kp H H9 := Kp.trans (Same.kp (Same.trans s5 s6)) kp69
    refine k _ kp9 ⟨dx, c, tb, h2, cl', ca', _, ⟨hm9, M.lay.kp kp9, ?_, ?_, b69 _ _ upd_same (Ne.symm nca), Nat.le_trans (cutV_length cs _ _) M.few⟩⟩
    · rw [b69 h2 _ (s6 _ _ upd_same) (Ne.symm n2m)]
      rw [ns_set, ns_set, ns_set, ns_set]
      rfl
    · rw [b9 cl' _ upd_same (Ne.symm ncl'), cut_take (by rw [List.length_map]; exact hln)]
      show some (HO.lst ((pile.map vi).take ln)) = some (HO.lst ((pile.take ln).map vi))
      rw [List.map_take]
end
end Fb

set_option Elab.async false
set_option linter.all false
set_option maxRecDepth 100000
set_option maxHeartbeats 4000000
namespace Fb
open PySem PySem.Spec PyProof.Rows L2
open He (ga ma)
theorem row_ne {K : PySem.W.Frag} {H : Hp} {a m C dx : Addr} {r : RowD} {fs : List (Str × V)} (h : RowAt K H a r) (hm : H m = some (.ins C dx fs)) (hf : 3 < fs.length) : a ≠ m := by
  intro z
  subst z
  obtain ⟨d, h⟩ := h
  rw [hm] at h
  have e := (HO.ins.inj (Option.some.inj h)).2.2
  have : (fieldsN r).length ≤ 3 := by cases r <;> simp [fieldsN]
  rw [e] at hf
  omega
theorem firstLand_none {ls : List (Nat × Nat)} : ∀ {calls : List CallD}, (∀ (i : Nat) c, calls[i]? = some c → landOf ls (c.1 - 1) = none) → firstLand ls calls = none
  | [], _ => rfl
  | c :: r, h => by
    unfold firstLand
    rw [h 0 c rfl]
    show (firstLand ls r).map _ = none
    rw [firstLand_none (calls := r) fun i d hd => h (i + 1) d (by simpa using hd)]
    rfl
theorem firstLand_some {ls : List (Nat × Nat)} {j : Nat} : ∀ {calls : List CallD} {n : Nat} {c : CallD}, calls[n]? = some c → landOf ls (c.1 - 1) = some j → (∀ (i : Nat) d, i < n → calls[i]? = some d → landOf ls (d.1 - 1) = none) → firstLand ls calls = some (n, j)
  | [], n, c, h, _, _ => by simp at h
  | d :: r, 0, c, h, hl, _ => by
    cases h
    unfold firstLand
    rw [hl]
  | d :: r, n + 1, c, h, hl, hb => by
    unfold firstLand
    rw [hb 0 d (by omega) rfl]
    show (firstLand ls r).map _ = _
    rw [firstLand_some (calls := r) (n := n) (by simpa using h) hl fun i e hi he => hb (i + 1) e (by omega) (by simpa using he)]
    rfl
section
variable {P : Program} {w : World} {K : PySem.W.Frag} {mg : Str → Option Value} {base : Heap}
/-! ### drop -/
structure DropIn (rs : List RowD) (es : List (Option Ent)) (ls : List (Nat × Nat)) (bot : CallD) (place : Nat) (bs pile : List Nat) (calls : List CallD) : Prop where
  len : bs.length = 8
  reads : ReadsN es pile place (bxOf bs) pile.length ((calls ++ [bot]).map told)
  few : calls.length ≤ 1000
  bot : bot.1 = rs.length
  inr : ∀ c ∈ calls, 1 ≤ c.1 ∧ c.1 < rs.length ∧ c.2.2.length ≤ pile.length
  land : ∀ k j, firstLand ls calls = some (k, j) → j ≤ rs.length
def DropOut (K : PySem.W.Frag) (H : Hp) (m : Addr) (rs : List RowD) (es : List (Option Ent)) (ls : List (Nat × Nat)) (place : Nat) (bs pile : List Nat) (calls : List CallD) (b n : Nat) (lost : V) : Prop :=
  (∀ k j c, firstLand ls calls = some (k, j) → calls[k]? = some c → MachAt K H m rs es ls j (landBoxes bs b c.2.1) (pile.take c.2.2.length) lost (stOf rs.length j) n) ∧ (firstLand ls calls = none → MachAt K H m rs es ls place bs pile (vi (bs.getD b 0)) "dropped" n)
def spDrop (K : PySem.W.Frag) : Sp := fun vs H Q _ => ∃ (m ra : Addr) (b place n : Nat) (rs : List RowD) (es : List (Option Ent)) (ls : List (Nat × Nat)) (bot : CallD) (bs pile : List Nat) (calls : List CallD) (lost : V), vs = [.ref m, .ref ra] ∧ MachAt K H m rs es ls place bs pile lost "runs" n ∧ RowAt K H ra (.drop b) ∧ b ≤ 7 ∧
  DropIn rs es ls bot place bs pile calls ∧ ∀ H', Kp H H' → DropOut K H' m rs es ls place bs pile calls b n lost → Q .non H'
theorem r_drop (T : Tx K mg) : FnR P w K mg base CX0 4 (ma K (ga K "Machine") "drop") (spDrop K) := by
  refine fnr0 T.F_Machine_drop sc_Machine_drop (fun vs H Q E h => ?_) hb_Machine_drop (fun cdv A outer s H vs Q E hr h => ?_)
  · obtain ⟨m, _, _, _, _, _, _, _, _, _, _, _, _, rfl, _⟩ := h
    rfl
  · obtain ⟨m, ra, b, place, n, rs, es, ls, bot, bs, pile, calls, lost, rfl, ⟨dx, c, tb, hl, cl, ca, cs, M⟩, hra, hb, D, k⟩ := h
    have hu := hu_of hr
    refine ⟨_, pss_cons (ps_set (i := 2) sc_Machine_drop.nd rfl (.inl rfl) (pe_lst pa_nil))
      (pss_cons (ps_try_thru0 (pss_one (ps_set (i := 2) sc_Machine_drop.nd rfl (.inl rfl) (pe_f (r_callers T) hr rfl T.gl_callers T.kp_callers pass0 (pa_cons (pe_fld (pv 0) rfl) (pa_cons (pe_fld (pv 0) rfl) (pa_cons (pe_fld (pv 0) rfl) (pa_cons (pe_fld (pv 0) rfl) pa_nil))))))))
      (pss_cons (ps_for PassesOwn.never rfl (pi_enumk rfl T.fr_enumerate (pa_cons (pv 2) pa_nil) (pk_cons pe_int pk_nil))
          (pg_tup rfl (pgs_cons (pg_name (i := 3) sc_Machine_drop.nd rfl (.inl rfl)) (pgs_cons (pg_tup rfl (pgs_cons (pg_name (i := 4) sc_Machine_drop.nd rfl (.inl rfl)) (pgs_cons (pg_name (i := 5) sc_Machine_drop.nd rfl (.inl rfl)) (pgs_cons (pg_name (i := 6) sc_Machine_drop.nd rfl (.inl rfl)) pgs_nil)))) pgs_nil)))
        (pss_cons (ps_set (i := 7) sc_Machine_drop.nd rfl (.inl rfl) pe_non)
        (pss_cons (ps_if (pt_cmpR op_ne (pv 4) (pe_fld (pv 0) rfl) (nomark _)) (pss_one (ps_set (i := 7) sc_Machine_drop.nd rfl (.inl rfl) (pe_dget1 hu (pe_fld (pe_fld (pv 0) rfl) rfl) (pe_op op_sub (pv 4) pe_int) ⟨rfl, rfl, rfl, rfl⟩))) pss_nil)
        (pss_one (ps_if (pt_cmpR op_notN (pv 7) pe_non (nomark _)) (pss_cons (ps_expr (pe_methR (pv 0) T.cl_Machine T.me_Machine_land (r_land T) (hr.mono (by decide)) pass0 (pa_cons (pv 1) (pa_cons (pv 7) (pa_cons (pv 5) (pa_cons (pv 6) (pa_cons (pv 3) pa_nil))))))) (pss_one ps_retN)) pss_nil)))))
      (pss_cons (ps_fld (pv 0) pe_str rfl)
      (pss_one (ps_fld (pv 0) (pe_ix ix_list (pe_fld (pv 0) rfl) (pe_fld (pv 1) rfl) (fun _ _ => rfl)) rfl))))), ?_⟩
    refine ⟨(by show 0 ≤ sizeLine; decide), fun l0 hl0 => ?_⟩
    have s0 := Same.new (o := .lst []) hl0
    have M0 := M.same s0
    refine ⟨_, rfl, m, _, dx, _, _, rfl, M0.at_, T.cl_Machine, T.no_Machine_table, rfl, _, rfl, m, _, dx, _, _, rfl, M0.at_, T.cl_Machine, T.no_Machine_place, rfl, _, rfl, m, _, dx, _, _, rfl, M0.at_, T.cl_Machine, T.no_Machine_held, rfl, _, rfl, m, _, dx, _, _, rfl, M0.at_, T.cl_Machine, T.no_Machine_cells, rfl,
      tb, hl, cl, place, es, ls, bxOf bs, pile, _, rfl, M0.lay.tab, box_of M0.held D.len, M0.cells, D.reads, by simp; have := D.few; omega, fun H1 p xs s1 hp hal => ?_⟩
    have s01 := Same.trans s0 s1
    have M1 := M0.same s1
    refine ⟨_, rfl, p, xs, 1, rfl, rfl, by omega, by omega, SqL.of hp, ?_⟩
    refine for_itek (K := K) (a := p) (k0 := 1) (xs := xs) (fun i σ H' => ∃ s3 s4 s5 s6 s7 : Option V, σ = [some (.ref m), some (.ref ra), some (.ref p), s3, s4, s5, s6, s7] ∧ Same H1 H' ∧ ∀ (i' : Nat) d, i' < i → calls[i']? = some d → landOf ls (d.1 - 1) = none) ⟨none, none, none, none, none, rfl, Same.rfl, fun i' d hi => by omega⟩ (fun i σ H' ⟨_, _, _, _, _, _, sm, _⟩ => SqL.of (sm _ _ hp)) (fun i x Z σ H' hxi ⟨s3, s4, s5, s6, s7, eσ, sm, inv⟩ hZ => ?_) (fun σ H' ⟨s3, s4, s5, s6, s7, eσ, sm, inv⟩ => ?_)
    · subst eσ
      have sZ := Same.new (o := .tup [vi (1 + i), x]) hZ
      have smZ := Same.trans sm sZ
      obtain ⟨q, hq, t, kt, rfl, ht, hkt⟩ := hal.back hxi
      have M2 := M1.same smZ
      refine ⟨Z, _, rfl, SqT.of upd_same, rfl, _, _, rfl, _, _, rfl, ?_⟩
      refine ⟨t, _, rfl, SqT.of (smZ _ _ ht), rfl, _, _, rfl, _, _, rfl, _, _, rfl, rfl, rfl, ?_⟩
      refine ⟨_, rfl, _, rfl, m, _, dx, _, _, rfl, M2.at_, T.cl_Machine, T.no_Machine_home, rfl, rfl, _, rfl, ?_⟩
      have eh : decide (vi q.1 = vi rs.length) = decide (q.1 = rs.length) := decide_eq_decide.mpr ⟨fun z => by have := V.int.inj z; omega, fun z => by rw [z]⟩
      rw [eh]
      -- which call it is
      by_cases ci : i < calls.length
      · have hci : calls[i]? = some calls[i] := List.getElem?_eq_getElem ci
        generalize calls[i] = cc at hci
        have hqc : q = told cc := by
          rw [List.getElem?_map, List.getElem?_append_left ci, hci] at hq
          exact (Option.some.inj hq).symm
        subst hqc
        obtain ⟨c1, c2, c3⟩ := D.inr cc (List.mem_of_getElem? hci)
        rw [decide_eq_false (show ¬ (told cc).1 = rs.length from fun z => by have z : cc.1 = rs.length := z; omega)]
        obtain ⟨dxt, el, dd, ys, htb, hye, halE, hdd⟩ := M2.lay.tab
        refine iteT ⟨_, rfl, m, _, dx, _, _, rfl, M2.at_, T.cl_Machine, T.no_Machine_table, rfl, tb, _, dxt, _, _, rfl, htb, T.cl_Table, T.no_Table_landings, rfl, dd, rfl, .inl ⟨_, .inl hdd⟩, _, rfl, _, _, rfl, rfl, (landOf ls (cc.1 - 1)).map vi, ?_, ?_⟩
        · have q := DGet.k (k := Sum.inl ((cc.1 - 1 : Nat) : Int)) hdd
          rw [valV_ls] at q
          have e : kV (Sum.inl ((cc.1 - 1 : Nat) : Int)) = V.int (((told cc).1 : Int) - 1) := congrArg V.int (by show ((cc.1 - 1 : Nat) : Int) = (cc.1 : Int) - 1; omega)
          rw [e] at q
          exact q
        refine ⟨_, rfl, rfl, _, rfl, ?_⟩
        cases hland : landOf ls (cc.1 - 1) with
        | none =>
          refine iteF ⟨_, _, _, _, _, rfl, smZ, fun i' d hi hd => ?_⟩
          by_cases z : i' < i
          · exact inv i' d z hd
          · have : i' = i := by omega
            subst this
            rw [hci] at hd
            cases hd
            exact hland
        | some j =>
          have hfl := firstLand_some hci hland inv
          refine iteT ⟨_, rfl, m, dx, _, rfl, M2.at_, rfl, _, rfl, _, rfl, _, rfl, _, rfl, _, rfl, m, ra, kt, dx, c, tb, hl, cl, ca, j, cc.2.2.length, 1 + i, b, place, n, cc.2.1, rs, es, ls, bs, pile, lost, cs, rfl, M2, RowAt.same (Same.trans s01 smZ) hra, hb, D.len, D.land _ _ hfl, c3, smZ _ _ hkt, fun H9 kp9 hM9 => ?_⟩
          refine k _ (Kp.trans (Same.kp (Same.trans s01 smZ)) kp9) ⟨fun k' j' c' hf hc' => ?_, fun hf => ?_⟩
          · rw [hfl] at hf
            cases hf
            rw [hci] at hc'
            cases hc'
            exact hM9
          · rw [hfl] at hf
            cases hf
      · have hqb : q = told bot := by
          have hlt := (List.getElem?_eq_some_iff.mp hq).1
          simp at hlt
          have : i = calls.length := by omega
          subst this
          rw [List.getElem?_map, List.getElem?_append_right (Nat.le_refl _), Nat.sub_self] at hq
          exact (Option.some.inj hq).symm
        subst hqb
        rw [decide_eq_true (show (told bot).1 = rs.length from D.bot)]
        refine iteF ⟨_, rfl, rfl, _, rfl, iteF ⟨_, _, _, _, _, rfl, smZ, fun i' d hi hd => ?_⟩⟩
        by_cases z : i' < i
        · exact inv i' d z hd
        · have := (List.getElem?_eq_some_iff.mp hd).1
          omega
    · subst eσ
      have hxl : xs.length = calls.length + 1 := by rw [hal.1]; simp
      have hf := firstLand_none (ls := ls) (calls := calls) fun i' d hd => inv i' d (by have := (List.getElem?_eq_some_iff.mp hd).1; omega) hd
      have M2 := M1.same sm
      have s02 := Same.trans s01 sm
      refine ⟨_, rfl, m, _, dx, _, rfl, M2.at_, T.cl_Machine, T.no_Machine_state, (by show 9 < 1000; decide), ?_⟩
      have nh : hl ≠ m := ne_of M2.held M2.at_ (by intro z; cases z)
      obtain ⟨dr, hra2⟩ := RowAt.same s02 hra
      have nr : ra ≠ m := row_ne ⟨dr, hra2⟩ M2.at_ (by show 3 < 9; decide)
      refine ⟨_, rfl, m, _, dx, _, _, rfl, upd_same, T.cl_Machine, T.no_Machine_held, rfl, _, rfl, ra, _, dr, _, _, rfl, by rw [upd_ne nr]; exact hra2, T.cl_Drop, T.no_Drop_box, rfl, hl, ns bs, _, _, rfl, rfl, sl (by rw [upd_ne nh]; exact M2.held), atN (by have := D.len; omega),
        _, rfl, m, _, dx, _, rfl, upd_same, T.cl_Machine, T.no_Machine_lost, (by show 9 < 1000; decide), ?_⟩
      have bu : But m H' (upd (upd H' m (.ins (ga K "Machine") dx (MF c tb rs.length place hl cl ca lost "dropped"))) m (.ins (ga K "Machine") dx (MF c tb rs.length place hl cl ca (vi (bs.getD b 0)) "dropped"))) := But.upd (But.upd But.refl)
      have kp := But.kp bu M2.at_ (by show 3 < 9; decide)
      refine k _ (Kp.trans (Same.kp s02) kp) ⟨fun k' j' c' hf' _ => ?_, fun _ => ⟨dx, c, tb, hl, cl, ca, cs, upd_same, M2.lay.kp kp, kp.lst M2.held, kp.lst M2.cells, kp.lst M2.calls, M.few⟩⟩
      rw [hf] at hf'
      cases hf'
end
end Fb

set_option Elab.async false
set_option linter.all false
set_option maxRecDepth 100000
set_option maxHeartbeats 4000000
namespace Fb
open PySem PySem.Spec PyProof.Rows L2
open He (ga ma)
theorem isDrop_iff (r : RowD) : isDrop r = true ↔ ∃ t, r = .drop t := by
  cases r with
  | drop t => exact ⟨fun _ => ⟨t, rfl⟩, fun _ => rfl⟩
  | _ => exact ⟨fun z => (by cases z), fun ⟨_, z⟩ => (by cases z)⟩
section
variable {P : Program} {w : World} {K : PySem.W.Frag} {mg : Str → Option Value} {base : Heap}
/-! ### step -/
def spStepD (K : PySem.W.Frag) : Sp := fun vs H Q _ => ∃ (m : Addr) (b place n : Nat) (rs : List RowD) (es : List (Option Ent)) (ls : List (Nat × Nat)) (bot : CallD) (bs pile : List Nat) (calls : List CallD) (lost : V), vs = [.ref m] ∧ MachAt K H m rs es ls place bs pile lost "runs" n ∧ rs[place]? = some (.drop b) ∧
  DropIn rs es ls bot place bs pile calls ∧ ∀ H', Kp H H' → DropOut K H' m rs es ls place bs pile calls b n lost → Q .non H'
def spStepR (K : PySem.W.Frag) : Sp := fun vs H Q _ => ∃ (m : Addr) (place n nx : Nat) (r : RowD) (rs : List RowD) (es : List (Option Ent)) (ls : List (Nat × Nat)) (bs pile bs' p' : List Nat) (lost : V), vs = [.ref m] ∧ MachAt K H m rs es ls place bs pile lost "runs" n ∧ rs[place]? = some r ∧ (∀ b, r ≠ .drop b) ∧
  bs.length = 8 ∧ pile.length ≤ 4000 ∧ n ≤ 1000 ∧ runsN r place bs pile = some (nx, bs', p') ∧ nx ≤ rs.length ∧ ∀ H', Kp H H' → MachAt K H' m rs es ls nx bs' p' lost (stOf rs.length nx) (n + 1) → Q .non H'
theorem r_stepR (T : Tx K mg) : FnR P w K mg base CX0 5 (ma K (ga K "Machine") "step") (spStepR K) := by
  refine fnr0 T.F_Machine_step sc_Machine_step (fun vs H Q E h => ?_) hb_Machine_step (fun cdv A outer s H vs Q E hr h => ?_)
  · obtain ⟨m, _, _, _, _, _, _, _, _, _, _, _, _, rfl, _⟩ := h
    rfl
  · obtain ⟨m, place, n, nx, r, rs, es, ls, bs, pile, bs', p', lost, rfl, ⟨dx, c, tb, hl, cl, ca, cs, M⟩, hri, hnd, hbs, hpl, hn, hrun, hnx, k⟩ := h
    obtain ⟨xs, hxs, hal⟩ := M.lay.code
    obtain ⟨va, hva, a, rfl, hx⟩ := hal.2 _ _ hri
    have hok := M.lay.ok _ _ hri
    have hdf : isDrop r = false := by
      cases q : isDrop r with
      | false => rfl
      | true =>
        obtain ⟨t, e⟩ := (isDrop_iff r).mp q
        exact absurd e (hnd t)
    refine ⟨_, pss_cons (ps_if (pt_cmpR op_ne (pe_fld (pv 0) rfl) pe_str (nomark _)) (pss_one ps_retN) pss_nil)
      (pss_cons (ps_set (i := 1) sc_Machine_step.nd rfl (.inl rfl) (pe_ix ix_list (pe_fld (pv 0) rfl) (pe_fld (pv 0) rfl) (fun _ _ => rfl)))
      (pss_cons (ps_if (pt_val (pe_callB call_isi rfl T.fr_isinstance (by decide +kernel) (pa_cons (pv 1) (pa_cons (pe_glob (v := V.ref (ga K "Drop")) rfl T.gl_Drop rfl) pa_nil)))) pss_never pss_nil)
      (pss_cons (ps_set (i := 2) sc_Machine_step.nd rfl (.inl rfl) (pe_methR (pv 1) (T.clR r) (T.me_runs r) (ok_runs T r hnd) (hr.mono (by decide)) pass0 (pa_cons (pe_fld (pv 0) rfl) (pa_cons (pe_fld (pv 0) rfl) (pa_cons (pe_fld (pv 0) rfl) pa_nil)))))
      (pss_cons (ps_if (PW.pt (pw_or (pt_cmpR op_isN (pv 2) pe_non (nomark _)) (pw_or1 (pt_cmpR op_gt (pe_ix ix_tup (pv 2) pe_int (fun _ _ => rfl)) (pe_fld (pv 0) rfl) (nomark _))))) pss_never pss_nil)
      (pss_cons (ps_if (pt_val (pe_callB call_isi rfl T.fr_isinstance (by decide +kernel) (pa_cons (pv 1) (pa_cons (pe_glob (v := V.ref (ga K "Call")) rfl T.gl_Call rfl) pa_nil))))
        (pss_cons (ps_set (i := 3) sc_Machine_step.nd rfl (.inl rfl) (pe_tup (pa_cons (pe_ix ix_list (pe_fld (pv 0) rfl) pe_int (fun _ _ => rfl)) (pa_cons (pe_ix ix_list (pe_fld (pv 0) rfl) pe_int (fun _ _ => rfl)) (pa_cons (pe_ix ix_list (pe_fld (pv 0) rfl) pe_int (fun _ _ => rfl)) pa_nil)))))
        (pss_one (ps_fld (pv 0) (pe_op op_cat (pe_lst (pa_cons (pe_tup (pa_cons (pe_op op_add (pe_fld (pv 0) rfl) pe_int) (pa_cons (pv 3) (pa_cons (pe_callB call_len_seq rfl T.fr_len (by decide +kernel) (pa_cons (pe_fld (pv 0) rfl) pa_nil)) pa_nil)))) pa_nil)) (pe_fld (pv 0) rfl)) rfl))) pss_nil)
      (pss_cons (ps_if (pt_val (pe_callB call_isi rfl T.fr_isinstance (by decide +kernel) (pa_cons (pv 1) (pa_cons (pe_glob (v := V.ref (ga K "Back")) rfl T.gl_Back rfl) pa_nil))))
        (pss_one (ps_fld (pv 0) (pe_slice sl_list (pe_fld (pv 0) rfl) (po_some pe_int) po_none) rfl)) pss_nil)
      (pss_one (ps_expr (pe_methR (pv 0) T.cl_Machine T.me_Machine_go_on (r_go_on T) (hr.mono (by decide)) pass0 (pa_cons (pe_ix ix_tup (pv 2) pe_int (fun _ _ => rfl)) (pa_cons (pe_ix ix_tup (pv 2) pe_int (fun _ _ => rfl)) (pa_cons (pe_ix ix_tup (pv 2) pe_int (fun _ _ => rfl)) pa_nil)))))))))))), ?_⟩
    refine ⟨_, rfl, m, _, dx, _, _, rfl, M.at_, T.cl_Machine, T.no_Machine_state, rfl, rfl, _, rfl, ?_⟩
    refine iteF ⟨_, rfl, m, _, dx, _, _, rfl, M.at_, T.cl_Machine, T.no_Machine_code, rfl, _, rfl, m, _, dx, _, _, rfl, M.at_, T.cl_Machine, T.no_Machine_place, rfl, c, xs, _, _, rfl, rfl, sl hxs, at_nat rfl hva, ?_⟩
    refine ⟨_, rfl, _, _, _, _, _, rfl, .own _, T.tyr hx, T.kitDrop r, _, rfl, ?_⟩
    rw [hdf]
    obtain ⟨dr, hx⟩ := hx
    refine iteF ⟨_, rfl, a, dr, _, rfl, hx, no_runs r, _, rfl, m, _, dx, _, _, rfl, M.at_, T.cl_Machine, T.no_Machine_place, rfl, _, rfl, m, _, dx, _, _, rfl, M.at_, T.cl_Machine, T.no_Machine_held, rfl, _, rfl, m, _, dx, _, _, rfl, M.at_, T.cl_Machine, T.no_Machine_cells, rfl,
      a, hl, cl, place, bs, pile, rfl, ⟨dr, hx⟩, hok, M.held, hbs, M.cells, hpl, fun H1 v s1 hv => ?_⟩
    rw [hrun] at hv
    obtain ⟨ft, b', q', rfl, hft, hb', hq'⟩ := hv
    have M1 := M.same s1
    refine ⟨_, rfl, rfl, _, rfl, iteF ⟨_, rfl, ft, _, _, vi nx, rfl, rfl, SqT.of hft, rfl, _, rfl, m, _, dx, _, _, rfl, M1.at_, T.cl_Machine, T.no_Machine_home, rfl, _, _, rfl, rfl, _, rfl, ?_⟩⟩
    rw [decide_eq_false (show ¬ (rs.length : Int) < (nx : Int) by omega)]
    refine iteF ?_
    dsimp only [tNext]
    have nft : ft ≠ m := ne_of hft M1.at_ (by intro z; cases z)
    have nb' : b' ≠ m := ne_of hb' M1.at_ (by intro z; cases z)
    have nq' : q' ≠ m := ne_of hq' M1.at_ (by intro z; cases z)
    refine seq_join (t := tIfS _ _ _) (fun σ H2 => ∃ (ca' : Addr) (cs' : List V) (kk : Option V), σ = [some (.ref m), some (.ref a), some (.ref ft), kk] ∧ But m H1 H2 ∧ Ma K H2 m rs es ls place bs pile lost "runs" (n + 1) dx c tb hl cl ca' cs') (fun σ H2 ⟨ca2, cs2, kk, eσ, b2, M2⟩ => ?_) (fun N rest => ?_)
    · subst eσ
      refine seq_join (t := tIfS _ _ _) (fun σ H3 => ∃ (ca' : Addr) (cs' : List V), σ = [some (.ref m), some (.ref a), some (.ref ft), kk] ∧ But m H1 H3 ∧ Ma K H3 m rs es ls place bs pile lost "runs" (n + 1) dx c tb hl cl ca' cs') (fun σ H3 ⟨ca3, cs3, eσ, b3, M3⟩ => ?_) (fun N rest => ?_)
      · subst eσ
        have hft3 := b3 _ _ hft nft
        refine ⟨_, rfl, m, dx, _, rfl, M3.at_, rfl, _, rfl, ft, _, _, vi nx, rfl, rfl, SqT.of hft3, rfl, _, rfl, ft, _, _, .ref b', rfl, rfl, SqT.of hft3, rfl, _, rfl, ft, _, _, .ref q', rfl, rfl, SqT.of hft3, rfl,
          m, dx, c, tb, hl, cl, ca3, b', q', rs.length, place, nx, lost, rfl, M3.at_, fun H9 b9 hm9 => ?_⟩
        have b19 := But.trans b3 b9
        have kp9 := Kp.trans (Same.kp s1) (But.kp b19 M1.at_ (by show 3 < 9; decide))
        refine k _ kp9 ⟨dx, c, tb, b', q', ca3, cs3, ⟨hm9, M.lay.kp kp9, b19 _ _ hb' nb', b19 _ _ hq' nq', b9 _ _ M3.calls (ne_of M3.calls M3.at_ (by intro z; cases z)), M3.few⟩⟩
      · have hx2 : RowAt K H2 a r := ⟨dr, b2 _ _ (s1 _ _ hx) (row_ne ⟨dr, s1 _ _ hx⟩ M1.at_ (by show 3 < 9; decide))⟩
        refine ⟨_, rfl, _, _, _, _, _, rfl, .own _, T.tyr hx2, T.kitBack r, _, rfl, ?_⟩
        cases isBack r with
        | false => exact iteF (rest _ _ ⟨ca2, cs2, rfl, b2, M2⟩)
        | true =>
          refine iteT ⟨_, rfl, m, _, dx, _, _, rfl, M2.at_, T.cl_Machine, T.no_Machine_calls, rfl, _, rfl, ca2, cs2, rfl, sl M2.calls, fun c4 hc4 => ?_⟩
          have s4 := Same.new (o := .lst (cutV cs2 (some 1) none)) hc4
          have M4 := M2.same s4
          refine ⟨_, rfl, m, _, dx, _, rfl, M4.at_, T.cl_Machine, T.no_Machine_calls, (by show 9 < 1000; decide), ?_⟩
          have bu : But m H2 (upd (upd H2 c4 (.lst (cutV cs2 (some 1) none))) m (.ins (ga K "Machine") dx (MF c tb rs.length place hl cl c4 lost "runs"))) := But.trans (Same.but s4) (But.upd But.refl)
          have kp := But.kp bu M2.at_ (by show 3 < 9; decide)
          exact rest _ _ ⟨c4, cutV cs2 (some 1) none, rfl, But.trans b2 bu, ⟨upd_same, M2.lay.kp kp, kp.lst M2.held, kp.lst M2.cells, by rw [upd_ne (Ne.symm (ne_of_none M2.at_ hc4)), upd_same], Nat.le_trans (cutV_length cs2 _ _) M2.few⟩⟩
    · have hx2 : RowAt K H1 a r := ⟨dr, s1 _ _ hx⟩
      refine ⟨_, rfl, _, _, _, _, _, rfl, .own _, T.tyr hx2, T.kitCall r, _, rfl, ?_⟩
      cases isCall r with
      | false => exact iteF (rest _ _ ⟨ca, cs, _, rfl, But.refl, M1.at_, M1.lay, M1.held, M1.cells, M1.calls, Nat.le_succ_of_le M1.few⟩)
      | true =>
        refine iteT ⟨_, rfl, m, _, dx, _, _, rfl, M1.at_, T.cl_Machine, T.no_Machine_held, rfl, hl, _, _, _, rfl, rfl, sl M1.held, atN (i := 4) (by omega), _, rfl, m, _, dx, _, _, rfl, M1.at_, T.cl_Machine, T.no_Machine_held, rfl, hl, _, _, _, rfl, rfl, sl M1.held, atN (i := 5) (by omega),
          _, rfl, m, _, dx, _, _, rfl, M1.at_, T.cl_Machine, T.no_Machine_held, rfl, hl, _, _, _, rfl, rfl, sl M1.held, atN (i := 6) (by omega), (by show 3 ≤ sizeLine; decide), fun kt hkt => ?_⟩
        have s2 := Same.new (o := .tup [vi (bs.getD 4 0), vi (bs.getD 5 0), vi (bs.getD 6 0)]) hkt
        have M2 := M1.same s2
        refine ⟨_, rfl, m, _, dx, _, _, rfl, M2.at_, T.cl_Machine, T.no_Machine_place, rfl, _, _, rfl, rfl, _, rfl, _, rfl, m, _, dx, _, _, rfl, M2.at_, T.cl_Machine, T.no_Machine_cells, rfl, cl, _, rfl, .inl (sl M2.cells), (by show 3 ≤ sizeLine; decide), fun yt hyt => ?_⟩
        refine ⟨(by show 1 ≤ sizeLine; decide), fun y1 hy1 => ?_⟩
        have s3 := Same.new (o := .tup [.int ((place : Int) + 1), .ref kt, .int ((ns pile).length : Int)]) hyt
        have s4 := Same.new (o := .lst [.ref yt]) hy1
        have M4 := (M2.same s3).same s4
        have hfew := M.few
        refine ⟨_, rfl, m, _, dx, _, _, rfl, M4.at_, T.cl_Machine, T.no_Machine_calls, rfl, y1, ca, _, _, rfl, rfl, upd_same, M4.calls, le_size (by simp; omega), fun y2 hy2 => ?_⟩
        have s5 := Same.new (o := .lst ([.ref yt] ++ cs)) hy2
        have M5 := M4.same s5
        refine ⟨_, rfl, m, _, dx, _, rfl, M5.at_, T.cl_Machine, T.no_Machine_calls, (by show 9 < 1000; decide), ?_⟩
        have s15 := Same.trans s2 (Same.trans s3 (Same.trans s4 s5))
        have bu := But.trans (Same.but s15) (But.upd (x := m) (o := .ins (ga K "Machine") dx (MF c tb rs.length place hl cl y2 lost "runs")) But.refl)
        have kp := But.kp bu M1.at_ (by show 3 < 9; decide)
        exact rest _ _ ⟨y2, [.ref yt] ++ cs, _, rfl, bu, ⟨upd_same, M1.lay.kp kp, kp.lst M1.held, kp.lst M1.cells, by rw [upd_ne (Ne.symm (ne_of_none M4.at_ hy2)), upd_same], by simp; omega⟩⟩
theorem r_stepD (T : Tx K mg) : FnR P w K mg base CX0 5 (ma K (ga K "Machine") "step") (spStepD K) := by
  refine fnr0 T.F_Machine_step sc_Machine_step (fun vs H Q E h => ?_) hb_Machine_step (fun cdv A outer s H vs Q E hr h => ?_)
  · obtain ⟨m, _, _, _, _, _, _, _, _, _, _, _, rfl, _⟩ := h
    rfl
  · obtain ⟨m, b, place, n, rs, es, ls, bot, bs, pile, calls, lost, rfl, ⟨dx, c, tb, hl, cl, ca, cs, M⟩, hri, D, k⟩ := h
    obtain ⟨xs, hxs, hal⟩ := M.lay.code
    obtain ⟨va, hva, a, rfl, hx⟩ := hal.2 _ _ hri
    have hok : b ≤ 7 := M.lay.ok _ _ hri
    refine ⟨_, pss_cons (ps_if (pt_cmpR op_ne (pe_fld (pv 0) rfl) pe_str (nomark _)) (pss_one ps_retN) pss_nil)
      (pss_cons (ps_set (i := 1) sc_Machine_step.nd rfl (.inl rfl) (pe_ix ix_list (pe_fld (pv 0) rfl) (pe_fld (pv 0) rfl) (fun _ _ => rfl)))
      (pss_cons (ps_if (pt_val (pe_callB call_isi rfl T.fr_isinstance (by decide +kernel) (pa_cons (pv 1) (pa_cons (pe_glob (v := V.ref (ga K "Drop")) rfl T.gl_Drop rfl) pa_nil))))
        (pss_cons (ps_expr (pe_methR (pv 0) T.cl_Machine T.me_Machine_drop (r_drop T) hr pass0 (pa_cons (pv 1) pa_nil))) (pss_one ps_retN)) pss_nil) pss_never)), ?_⟩
    refine ⟨_, rfl, m, _, dx, _, _, rfl, M.at_, T.cl_Machine, T.no_Machine_state, rfl, rfl, _, rfl, ?_⟩
    refine iteF ⟨_, rfl, m, _, dx, _, _, rfl, M.at_, T.cl_Machine, T.no_Machine_code, rfl, _, rfl, m, _, dx, _, _, rfl, M.at_, T.cl_Machine, T.no_Machine_place, rfl, c, xs, _, _, rfl, rfl, sl hxs, at_nat rfl hva, ?_⟩
    refine ⟨_, rfl, _, _, _, _, _, rfl, .own _, T.tyr hx, T.kitDrop _, _, rfl, ?_⟩
    refine iteT ⟨_, rfl, m, dx, _, rfl, M.at_, rfl, _, rfl, m, a, b, place, n, rs, es, ls, bot, bs, pile, calls, lost, rfl, ⟨dx, c, tb, hl, cl, ca, cs, M⟩, hx, hok, D, fun H' kp hout => k _ kp hout⟩
end
end Fb

set_option Elab.async false
set_option linter.all false
set_option maxRecDepth 100000
set_option maxHeartbeats 4000000
namespace Fb
open PySem PySem.Spec PyProof.Rows L2
open He (ga ma)
section
variable {P : Program} {w : World} {K : PySem.W.Frag} {mg : Str → Option Value} {base : Heap}
/-! ### Machine.__init__ -/
def spMach0 (K : PySem.W.Frag) : Sp := fun vs H Q _ => ∃ (x dx c tb bl : Addr) (rs : List RowD) (es : List (Option Ent)) (ls : List (Nat × Nat)) (b7 : List Nat) (H0 : Hp), vs = [.ref x, .ref c, .ref tb, .ref bl, .int 0] ∧ H x = some (.ins (ga K "Machine") dx []) ∧ Same H0 H ∧ H0 x = none ∧ Lay K H0 c tb rs es ls ∧ H0 bl = some (.lst (ns b7)) ∧ b7.length = 7 ∧
  ∀ H', Same H0 H' → MachAt K H' x rs es ls 0 (b7 ++ [rs.length]) [] .non (stOf rs.length 0) 1 → Q .non H'
def spMach (K : PySem.W.Frag) : Sp := fun vs H Q E => spMach0 K (vs ++ [V.int 0].drop 0) H Q E
theorem r_Machine_init (T : Tx K mg) : FnR P w K mg base CX0 3 (ma K (ga K "Machine") "__init__") (spMach K) := by
  refine fnrD (dvs := [.int 0]) (N := N_Machine_init) (ps := ["self", "code", "table", "boxes", "start"]) (sp := spMach0 K) 4 0 (by simp) rfl T.F_Machine_init sc_Machine_init (fun vs H Q E h => ?_) (fun T kV doc pm an cdv ct us its h1 h2 => ?_) (fun cdv A outer s H vs Q E hr h => ?_)
  · obtain ⟨x, _, _, _, _, _, _, _, _, _, rfl, _⟩ := h
    rfl
  · match us, its, h1, h2 with
    | [a, b, c, d], [i], _, _ => exact ⟨_, rfl, rfl⟩
  · obtain ⟨x, dx, c, tb, bl, rs, es, ls, b7, H0, rfl, hx, hS, h0, L, hbl, hb7, k⟩ := h
    refine ⟨_, PSs.nox (pss_cons (ps_fld (pv 0) (pe_callTy call_list_of rfl T.fr_list (by decide +kernel) (pa_cons (pv 1) pa_nil)) rfl)
      (pss_cons (ps_fld (pv 0) (StX.pe_makeR T.mk_Table (r_Table_init T) hr rfl T.gl_Table pass0 (pa_cons (pe_fld (pv 2) rfl) (pa_cons (pe_fld (pv 2) rfl) pa_nil))) rfl)
      (pss_cons (ps_fld (pv 0) (pe_callB call_len_seq rfl T.fr_len (by decide +kernel) (pa_cons (pe_fld (pv 0) rfl) pa_nil)) rfl)
      (pss_cons (ps_fld (pv 0) (pv 4) rfl)
      (pss_cons (ps_fld (pv 0) (pe_op op_cat (pe_callTy call_list_of rfl T.fr_list (by decide +kernel) (pa_cons (pv 3) pa_nil)) (pe_lst (pa_cons (pe_fld (pv 0) rfl) pa_nil))) rfl)
      (pss_cons (ps_fld (pv 0) (pe_lst pa_nil) rfl)
      (pss_cons (ps_fld (pv 0) (pe_lst (pa_cons (pe_tup (pa_cons (pe_fld (pv 0) rfl) (pa_cons (pe_tup (pa_cons (pe_ix ix_list (pe_fld (pv 0) rfl) pe_int (fun _ _ => rfl)) (pa_cons (pe_ix ix_list (pe_fld (pv 0) rfl) pe_int (fun _ _ => rfl)) (pa_cons (pe_ix ix_list (pe_fld (pv 0) rfl) pe_int (fun _ _ => rfl)) pa_nil)))) (pa_cons pe_int pa_nil)))) pa_nil)) rfl)
      (pss_cons (ps_fld (pv 0) pe_non rfl)
      (pss_cons (ps_fld (pv 0) pe_str rfl)
      (pss_one (ps_if (pt_cmpR op_eq (pv 4) (pe_fld (pv 0) rfl) (nomark _)) (pss_one (ps_fld (pv 0) pe_str rfl)) pss_nil))))))))))), ?_⟩
    obtain ⟨xs, hxs0, hal⟩ := L.code
    have hxs := hS _ _ hxs0
    refine ⟨_, rfl, c, xs, rfl, .inl (sl hxs), fun l1 hl1 => ?_⟩
    have s1 := Same.new (o := .lst xs) hl1
    have n1 : l1 ≠ x := Ne.symm (ne_of_none hx hl1)
    refine ⟨_, rfl, x, _, dx, _, rfl, s1 _ _ hx, T.cl_Machine, T.no_Machine_code, (by show 0 < 1000; decide), ?_⟩
    have B2 := But.trans (Same.but s1) (But.upd (x := x) (o := .ins (ga K "Machine") dx [("code", .ref l1)]) But.refl)
    have S2 := Same.butS hS B2 h0
    have f1 : upd (upd H l1 (.lst xs)) x (.ins (ga K "Machine") dx [("code", .ref l1)]) l1 = some (.lst xs) := by rw [upd_ne n1, upd_same]
    obtain ⟨dxt, el, dd, ys, htb0, hye0, halE, hdd0⟩ := L.tab
    have htb := S2 _ _ htb0
    have hye := S2 _ _ hye0
    have hdd := S2 _ _ hdd0
    have hx2 : upd (upd H l1 (.lst xs)) x (.ins (ga K "Machine") dx [("code", .ref l1)]) x = some (.ins (ga K "Machine") dx [("code", .ref l1)]) := upd_same
    refine ⟨_, rfl, tb, _, dxt, _, _, rfl, htb, T.cl_Table, T.no_Table_entries, rfl, _, rfl, tb, _, dxt, _, _, rfl, htb, T.cl_Table, T.no_Table_landings, rfl, fun t dt ht hdt hne => ⟨t, dt, el, dd, ys, lsV ls, rfl, upd_same, ?_, ?_, fun H3 el' d' hx3 hbut hel3 hd3 _ => ⟨rfl, ?_⟩⟩⟩
    · rw [upd_ne (ne_of_none hye ht), upd_ne (ne_of_none hye hdt)]
      exact hye
    · rw [upd_ne (ne_of_none hdd ht), upd_ne (ne_of_none hdd hdt)]
      exact hdd
    have s3 : Same (upd (upd H l1 (.lst xs)) x (.ins (ga K "Machine") dx [("code", .ref l1)])) H3 := fun b o hb => hbut b o (by
      rw [upd_ne (ne_of_none hb ht), upd_ne (ne_of_none hb hdt)]
      exact hb) (ne_of_none hb ht)
    have hx3' := s3 _ _ hx2
    have nt : t ≠ x := Ne.symm (ne_of_none hx2 ht)
    have nel : el' ≠ x := ne_of hel3 hx3' (by intro z; cases z)
    have nd : d' ≠ x := ne_of hd3 hx3' (by intro z; cases z)
    have f1' := s3 _ _ f1
    have S3 := Same.trans S2 s3
    clear hbut hye hdd htb f1 hx2 s1 B2 S2 hx s3 hne ht hdt hl1 hxs
    refine ⟨_, rfl, x, _, dx, _, rfl, hx3', T.cl_Machine, T.no_Machine_table, (by show 1 < 1000; decide), ?_⟩
    -- the fields that are told of what stands
    refine ⟨_, rfl, x, _, dx, _, _, rfl, upd_same, T.cl_Machine, T.no_Machine_code, rfl, l1, xs, rfl, .inl (sl (by rw [upd_ne n1]; exact f1')), _, rfl, x, _, dx, _, rfl, upd_same, T.cl_Machine, T.no_Machine_home, (by show 2 < 1000; decide), ?_⟩
    refine ⟨_, rfl, _, rfl, x, _, dx, _, rfl, upd_same, T.cl_Machine, T.no_Machine_place, (by show 3 < 1000; decide), ?_⟩
    have B5 : But x H3 (upd (upd (upd H3 x (.ins (ga K "Machine") dx [("code", .ref l1), ("table", .ref t)])) x (.ins (ga K "Machine") dx [("code", .ref l1), ("table", .ref t), ("home", .int (xs.length : Int))])) x (.ins (ga K "Machine") dx [("code", .ref l1), ("table", .ref t), ("home", .int (xs.length : Int)), ("place", .int 0)])) := But.upd (But.upd (But.upd But.refl))
    have hx5 : upd (upd (upd H3 x (.ins (ga K "Machine") dx [("code", .ref l1), ("table", .ref t)])) x (.ins (ga K "Machine") dx [("code", .ref l1), ("table", .ref t), ("home", .int (xs.length : Int))])) x (.ins (ga K "Machine") dx [("code", .ref l1), ("table", .ref t), ("home", .int (xs.length : Int)), ("place", .int 0)]) x = some (.ins (ga K "Machine") dx [("code", .ref l1), ("table", .ref t), ("home", .int (xs.length : Int)), ("place", .int 0)]) := upd_same
    have S5 := Same.butS S3 B5 h0
    refine ⟨_, rfl, bl, _, rfl, .inl (sl (S5 _ _ hbl)), fun l2 hl2 => ?_⟩
    have s6 := Same.new (o := .lst (ns b7)) hl2
    refine ⟨_, rfl, x, _, dx, _, _, rfl, s6 _ _ hx5, T.cl_Machine, T.no_Machine_home, rfl, (by show 1 ≤ sizeLine; decide), fun l3 hl3 => ?_⟩
    have s7 := Same.new (o := .lst [.int (xs.length : Int)]) hl3
    refine ⟨l2, l3, _, _, rfl, rfl, s7 _ _ upd_same, upd_same, le_size (by simp; omega), fun l4 hl4 => ?_⟩
    have s8 := Same.new (o := .lst (ns b7 ++ [.int (xs.length : Int)])) hl4
    have s58 := Same.trans s6 (Same.trans s7 s8)
    have hx8 := s58 _ _ hx5
    have n4 : l4 ≠ x := Ne.symm (ne_of_none (s7 _ _ (s6 _ _ hx5)) hl4)
    refine ⟨_, rfl, x, _, dx, _, rfl, hx8, T.cl_Machine, T.no_Machine_held, (by show 4 < 1000; decide), ?_⟩
    refine ⟨(by show 0 ≤ sizeLine; decide), fun l5 hl5 => ?_⟩
    have n5 : l5 ≠ x := by
      intro z
      subst z
      rw [upd_same] at hl5
      cases hl5
    have s9 := Same.new (o := .lst []) hl5
    refine ⟨_, rfl, x, _, dx, _, rfl, s9 _ _ upd_same, T.cl_Machine, T.no_Machine_cells, (by show 5 < 1000; decide), ?_⟩
    have hheld : ∀ (Hc : Hp), But x (upd (upd (upd (upd (upd (upd H3 x (.ins (ga K "Machine") dx [("code", .ref l1), ("table", .ref t)])) x (.ins (ga K "Machine") dx [("code", .ref l1), ("table", .ref t), ("home", .int (xs.length : Int))])) x (.ins (ga K "Machine") dx [("code", .ref l1), ("table", .ref t), ("home", .int (xs.length : Int)), ("place", .int 0)])) l2 (.lst (ns b7))) l3 (.lst [.int (xs.length : Int)])) l4 (.lst (ns b7 ++ [.int (xs.length : Int)]))) Hc → Hc l4 = some (.lst (ns (b7 ++ [rs.length]))) := fun Hc b => by
      rw [b l4 _ upd_same n4, hal.1]
      simp [ns]
      rfl
    have b810 := But.trans (But.upd (x := x) (o := .ins (ga K "Machine") dx [("code", .ref l1), ("table", .ref t), ("home", .int (xs.length : Int)), ("place", .int 0), ("held", .ref l4)]) But.refl) (But.trans (Same.but s9) (But.upd (x := x) (o := .ins (ga K "Machine") dx [("code", .ref l1), ("table", .ref t), ("home", .int (xs.length : Int)), ("place", .int 0), ("held", .ref l4), ("cells", .ref l5)]) But.refl))
    have h4 := hheld _ b810
    have h8l : (b7 ++ [rs.length]).length = 8 := by simp [hb7]
    refine ⟨_, rfl, x, _, dx, _, _, rfl, upd_same, T.cl_Machine, T.no_Machine_home, rfl, _, rfl, x, _, dx, _, _, rfl, upd_same, T.cl_Machine, T.no_Machine_held, rfl, l4, _, _, _, rfl, rfl, sl h4, atN (i := 4) (by omega), _, rfl, x, _, dx, _, _, rfl, upd_same, T.cl_Machine, T.no_Machine_held, rfl, l4, _, _, _, rfl, rfl, sl h4, atN (i := 5) (by omega),
      _, rfl, x, _, dx, _, _, rfl, upd_same, T.cl_Machine, T.no_Machine_held, rfl, l4, _, _, _, rfl, rfl, sl h4, atN (i := 6) (by omega), (by show 3 ≤ sizeLine; decide), fun kt hkt => ?_⟩
    refine ⟨(by show 3 ≤ sizeLine; decide), fun yt hyt => ⟨(by show 1 ≤ sizeLine; decide), fun l6 hl6 => ?_⟩⟩
    have s11 := Same.new (o := .tup [vi ((b7 ++ [rs.length]).getD 4 0), vi ((b7 ++ [rs.length]).getD 5 0), vi ((b7 ++ [rs.length]).getD 6 0)]) hkt
    have s12 := Same.new (o := .tup [.int (xs.length : Int), .ref kt, .int 0]) hyt
    have s13 := Same.new (o := .lst [.ref yt]) hl6
    have s10 := Same.trans s11 (Same.trans s12 s13)
    have n6 : l6 ≠ x := by
      intro z
      subst z
      rw [s12 _ _ (s11 _ _ upd_same)] at hl6
      cases hl6
    refine ⟨_, rfl, x, _, dx, _, rfl, s10 _ _ upd_same, T.cl_Machine, T.no_Machine_calls, (by show 6 < 1000; decide), ?_⟩
    refine ⟨_, rfl, x, _, dx, _, rfl, upd_same, T.cl_Machine, T.no_Machine_lost, (by show 7 < 1000; decide), ?_⟩
    refine ⟨_, rfl, x, _, dx, _, rfl, upd_same, T.cl_Machine, T.no_Machine_state, (by show 8 < 1000; decide), ?_⟩
    refine ⟨_, rfl, _, rfl, x, _, dx, _, _, rfl, upd_same, T.cl_Machine, T.no_Machine_home, rfl, rfl, _, rfl, ?_⟩
    have fin : ∀ Hend : Hp, But x (upd (upd (upd (upd (upd (upd (upd (upd (upd (upd (upd (upd H3 x (.ins (ga K "Machine") dx [("code", .ref l1), ("table", .ref t)])) x (.ins (ga K "Machine") dx [("code", .ref l1), ("table", .ref t), ("home", .int (xs.length : Int))])) x (.ins (ga K "Machine") dx [("code", .ref l1), ("table", .ref t), ("home", .int (xs.length : Int)), ("place", .int 0)])) l2 (.lst (ns b7))) l3 (.lst [.int (xs.length : Int)])) l4 (.lst (ns b7 ++ [.int (xs.length : Int)])))
        x (.ins (ga K "Machine") dx [("code", .ref l1), ("table", .ref t), ("home", .int (xs.length : Int)), ("place", .int 0), ("held", .ref l4)])) l5 (.lst [])) x (.ins (ga K "Machine") dx [("code", .ref l1), ("table", .ref t), ("home", .int (xs.length : Int)), ("place", .int 0), ("held", .ref l4), ("cells", .ref l5)]))
        kt (.tup [vi ((b7 ++ [rs.length]).getD 4 0), vi ((b7 ++ [rs.length]).getD 5 0), vi ((b7 ++ [rs.length]).getD 6 0)])) yt (.tup [.int (xs.length : Int), .ref kt, .int 0])) l6 (.lst [.ref yt])) Hend →
        ∀ st, st = stOf rs.length 0 → Hend x = some (.ins (ga K "Machine") dx (MF l1 t xs.length 0 l4 l5 l6 .non st)) → Q .non Hend := fun Hend bE st hst hm => by
      rw [hal.1] at hm
      subst hst
      have bA := But.trans (Same.but s10) bE
      have b3e := But.trans B5 (But.trans (Same.but s58) (But.trans b810 bA))
      have Se := Same.butS S3 b3e h0
      refine k _ Se ⟨dx, l1, t, l4, l5, l6, [.ref yt], hm, ⟨⟨xs, b3e _ _ f1' n1, hal.imp fun _ _ => (Same.kp Se).rowV⟩, ⟨dt, el', d', ys, b3e _ _ hx3 nt, b3e _ _ hel3 nel, halE.imp fun _ _ => (Same.kp Se).ent, b3e _ _ hd3 nd⟩, L.ok, L.few⟩, hheld _ (But.trans b810 bA), ?_, bE _ _ upd_same n6, Nat.le_refl _⟩
      refine bA _ _ ?_ n5
      rw [upd_ne n5, upd_same]
      rfl
    have e0 : decide (V.int 0 = V.int (xs.length : Int)) = decide (0 = rs.length) := decide_eq_decide.mpr ⟨fun z => by have := V.int.inj z; have := hal.1; omega, fun z => congrArg V.int (by have := hal.1; omega)⟩
    rw [e0]
    by_cases cz : 0 = rs.length
    · rw [decide_eq_true cz]
      exact iteT ⟨_, rfl, x, _, dx, _, rfl, upd_same, T.cl_Machine, T.no_Machine_state, (by show 9 < 1000; decide), fin _ (But.upd (But.upd (But.upd (But.upd But.refl)))) "ended" (if_pos cz).symm upd_same⟩
    · rw [decide_eq_false cz]
      exact iteF (fin _ (But.upd (But.upd (But.upd But.refl))) "runs" (if_neg cz).symm upd_same)
end
end Fb

set_option Elab.async false
set_option linter.all false
set_option maxRecDepth 100000
set_option maxHeartbeats 4000000
namespace Fb
open PySem PySem.Spec PyProof.Rows L2
open He (ga ma)
/-! ### the law's own defs -/
theorem modN (y : Int) {m : Nat} (h : 0 < m) : ∃ n : Nat, y % (m : Int) = (n : Int) ∧ n < m :=
  ⟨(y % (m : Int)).toNat, (Int.toNat_of_nonneg (Int.emod_nonneg _ (by omega))).symm, by have := Int.emod_lt_of_pos y (show 0 < (m : Int) by omega); have := Int.emod_nonneg y (show (m : Int) ≠ 0 by omega); omega⟩
/-- a row's tuple; with neg, calls and jumps hold -1 - target -/
def tupOf (neg : Bool) : RowD → List V
  | .set b n => [.str "set", vi b, vi n]
  | .copy b o => [.str "copy", vi b, vi o]
  | .add b o t => [.str "add", vi b, vi o, vi t]
  | .grow m => [.str "grow", vi m]
  | .shrink m => [.str "shrink", vi m]
  | .put b c => [.str "put", vi b, vi c]
  | .get b c => [.str "get", vi b, vi c]
  | .jump t => [.str "jump", if neg = true then .int (-1 - (t : Int)) else vi t]
  | .branch b t => [.str "branch", vi b, vi t]
  | .call t => [.str "call", if neg = true then .int (-1 - (t : Int)) else vi t]
  | .back b => [.str "back", vi b]
  | .drop b => [.str "drop", vi b]
def TellV (K : PySem.W.Frag) (neg : Bool) (H : Hp) (v : V) (r : RowD) : Prop := ∃ t, v = .ref t ∧ SqT K H t (tupOf neg r)
theorem Kp.tell {K : PySem.W.Frag} {neg : Bool} {H H' : Hp} {v : V} {r : RowD} (k : Kp H H') (h : TellV K neg H v r) : TellV K neg H' v r := let ⟨t, a, b⟩ := h; ⟨t, a, k.seqT b⟩
theorem tell_updL {K : PySem.W.Frag} {neg : Bool} {H : Hp} {a : Addr} {xs ys : List V} {v : V} {r : RowD} (h : H a = some (.lst xs)) (q : TellV K neg H v r) : TellV K neg (upd H a (.lst ys)) v r := let ⟨t, r, b⟩ := q; ⟨t, r, seqT_updL h b⟩
theorem tell_updD {K : PySem.W.Frag} {neg : Bool} {H : Hp} {a : Addr} {xs ys : List (Key × V)} {v : V} {r : RowD} (h : H a = some (.dK xs)) (q : TellV K neg H v r) : TellV K neg (upd H a (.dK ys)) v r := by
  obtain ⟨t, e, q⟩ := q
  refine ⟨t, e, ?_⟩
  rcases q with (q | ⟨o, q⟩) | q
  · refine .inl (.inl ?_)
    rw [upd_ne (ne_of q h (by intro z; cases z))]
    exact q
  · refine .inl (.inr ⟨o, ?_⟩)
    rw [upd_ne (ne_of q h (by intro z; cases z))]
    exact q
  · exact .inr q
section
variable {P : Program} {w : World} {K : PySem.W.Frag} {mg : Str → Option Value} {base : Heap}
def spCell (K : PySem.W.Frag) : Sp := fun vs H Q _ => ∃ (a : Addr) (zs : List Int) (k : Int), vs = [.ref a, .int k] ∧ 0 ≤ k ∧ SqL K H a (zs.map V.int) ∧ ∀ z : Int, Q (.int z) H
theorem r_cell_at (T : Tx K mg) : FnR P w K mg base CX0 1 (ga K "_law_cell_at") (spCell K) := by
  refine fnr0 T.F_law_cell_at sc_law_cell_at (fun vs H Q E h => ?_) hb_law_cell_at (fun cdv A outer s H vs Q E hr h => ?_)
  · obtain ⟨a, zs, k, rfl, _⟩ := h
    rfl
  · obtain ⟨a, zs, i, rfl, h0, hs, k⟩ := h
    obtain ⟨i, rfl⟩ := Int.eq_ofNat_of_zero_le h0
    refine ⟨_, pss_cons (ps_if (pt_cmpR op_lt (pv 1) (pe_callB call_len_seq rfl T.fr_len (by decide +kernel) (pa_cons (pv 0) pa_nil)) (nomark _)) (pss_one (ps_ret (pe_ix ix_list (pv 0) (pv 1) (fun _ _ => rfl)))) pss_nil) (pss_one (ps_ret pe_int)), ?_⟩
    refine ⟨_, rfl, _, rfl, a, _, rfl, .inl hs, _, _, rfl, rfl, _, rfl, ?_⟩
    refine ite2 (fun c => ?_) (fun c => k _)
    have c := of_decide_eq_true c
    have hi : i < zs.length := by rw [List.length_map] at c; omega
    exact ⟨_, rfl, _, rfl, a, _, _, .int zs[i], rfl, rfl, hs, at_nat rfl (by rw [List.getElem?_map, List.getElem?_eq_getElem hi]; rfl), k _⟩
def spValueL : Sp := fun vs H Q _ => ∃ z : Int, vs = [.int z] ∧ ∀ H' (n : Nat), Same H H' → Q (vi n) H'
theorem r_law_value (T : Tx K mg) : FnR P w K mg base CX0 1 (ga K "_law_value") spValueL := by
  refine fnr0 T.F_law_value sc_law_value (fun vs H Q E h => ?_) hb_law_value (fun cdv A outer s H vs Q E hr h => ?_)
  · obtain ⟨z, rfl, _⟩ := h
    rfl
  · obtain ⟨z, rfl, k⟩ := h
    refine ⟨_, pss_one (ps_ret (pe_op op_mod (pe_op op_fdivN (pv 0) pe_int) (pe_ix ix_list (pe_lst (pa_cons pe_int (pa_cons pe_int (pa_cons pe_int pa_nil)))) (pe_op op_mod (pv 0) pe_int) (fun _ _ => rfl)))), ?_⟩
    refine ⟨_, rfl, _, _, rfl, rfl, ⟨by decide, by decide⟩, (by show 3 ≤ sizeLine; decide), fun p hp => ?_⟩
    have s1 := Same.new (o := .lst [.int 4294967296, .int 1, .int 3]) hp
    obtain ⟨n, hn, hlt⟩ := modN z (m := 3) (by decide)
    have fin : ∀ m : Int, 0 < m → Q (.int ((z.fdiv 3) % m)) (upd H p (.lst [.int 4294967296, .int 1, .int 3])) := fun m hm => by
      have := k _ ((z.fdiv 3) % m).toNat s1
      rw [show vi ((z.fdiv 3) % m).toNat = V.int ((z.fdiv 3) % m) from congrArg V.int (Int.toNat_of_nonneg (Int.emod_nonneg _ (by omega)))] at this
      exact this
    refine ⟨_, rfl, _, _, rfl, rfl, (by show (0 : Int) < 3; decide), p, [.int 4294967296, .int 1, .int 3], z % 3, ?_⟩
    match n, hlt with
    | 0, _ => exact ⟨.int 4294967296, rfl, rfl, SqL.of upd_same, at_nat hn rfl, _, _, rfl, rfl, (by show (0 : Int) < 4294967296; decide), fin _ (by decide)⟩
    | 1, _ => exact ⟨.int 1, rfl, rfl, SqL.of upd_same, at_nat hn rfl, _, _, rfl, rfl, (by show (0 : Int) < 1; decide), fin _ (by decide)⟩
    | 2, _ => exact ⟨.int 3, rfl, rfl, SqL.of upd_same, at_nat hn rfl, _, _, rfl, rfl, (by show (0 : Int) < 3; decide), fin _ (by decide)⟩
/-! ### the row of a tuple -/
def spLawRow (K : PySem.W.Frag) (r : RowD) : Sp := fun vs H Q _ => ∃ (v : V), vs = [v] ∧ TellV K false H v r ∧ r.ok ∧ ∀ H' p, Same H H' → RowAt K H' p r → Q (.ref p) H'
/-- an instance that is made: what its making asks -/
theorem make_row {H : Hp} {Q : Addr → Hp → Prop} {r : RowD} {E : XK} (hok : r.ok) (k : ∀ H' p, Same H H' → H p = none → RowAt K H' p r → Q p H') : ∀ x dx, H x = none → H dx = none → dx ≠ x → spInit K r (V.ref x :: (fieldsN r).map (·.2)) (upd (upd H dx (.own x)) x (.ins (ga K (cN r)) dx [])) (fun v H2 => v = .non ∧ Q x H2) E := fun x dx hx hd ne =>
  ⟨x, dx, rfl, hok, upd_same, fun H' h1 h2 => ⟨rfl, k H' x (fun b o hb => h2 b o (by rw [upd_ne (ne_of_none hb hx), upd_ne (ne_of_none hb hd)]; exact hb) (ne_of_none hb hx)) hx ⟨dx, h1⟩⟩⟩
theorem cut3 : ¬ (HT.sIx 3 0 (some 1) = 0 ∧ HT.sIx 3 3 none = 3) := by decide
theorem r_law_row_set (T : Tx K mg) (b n : Nat) : FnR P w K mg base CX0 5 (ga K "_law_row") (spLawRow K (.set b n)) := by
  refine fnr0 T.F_law_row sc_law_row (fun vs H Q E h => ?_) hb_law_row (fun cdv A outer s H vs Q E hr h => ?_)
  · obtain ⟨v, rfl, _⟩ := h
    rfl
  · obtain ⟨v, rfl, ⟨ta, rfl, ht0⟩, hok, k⟩ := h
    have ht := ht0
    refine ⟨_, (pss_cons (ps_set (i := 1) sc_law_row.nd rfl (.inl rfl) (pe_ix ix_tup (pv 0) pe_int (fun _ _ => rfl)))
      (pss_cons (ps_if (pt_cmpR op_in_seq (pv 1) (pe_lst (pa_cons pe_str (pa_cons pe_str (pa_cons pe_str (pa_cons pe_str pa_nil))))) (by rfl)) (pss_cons (ps_asg (pe_slice sl_tup (pv 0) (po_some pe_int) po_none) (pg_tup rfl (pgs_cons (pg_name (i := 2) sc_law_row.nd rfl (.inl rfl)) (pgs_cons (pg_name (i := 3) sc_law_row.nd rfl (.inl rfl)) pgs_nil)))) (pss_cons (ps_if (pt_cmpR op_eq (pv 1) pe_str (nomark _)) (pss_one (ps_ret (StX.pe_makeR T.mk_Set (ok_init T (.set b n)) (hr.mono (by decide)) rfl T.gl_Set pass0 (pa_cons (pv 2) (pa_cons (pv 3) pa_nil))))) pss_nil) pss_never)) pss_nil)
      pss_never)), ?_⟩
    refine ⟨_, rfl, ta, _, _, .str "set", rfl, rfl, ht, rfl, ?_⟩
    refine ⟨_, rfl, (by show 4 ≤ sizeLine; decide), fun p1 hp1 => ⟨p1, _, rfl, .inl (SqL.of upd_same), rfl, rfl, _, rfl, iteT ?_⟩⟩
    have s1 := Same.new (o := .lst [.str "set", .str "copy", .str "put", .str "get"]) hp1
    have ht := (Same.kp s1).seqT ht0
    refine ⟨_, rfl, _, rfl, ta, _, rfl, ht, cut3, fun q hq => ?_⟩
    have s2 := Same.new (o := .tup [vi b, vi n]) hq
    refine ⟨q, _, rfl, SqT.of upd_same, rfl, _, _, rfl, _, _, rfl, rfl, ?_⟩
    exact ⟨_, rfl, rfl, _, rfl, iteT ⟨_, rfl, _, rfl, make_row (r := .set b n) hok fun H' x s3 _ h => k H' x (Same.trans s1 (Same.trans s2 s3)) h⟩⟩
theorem r_law_row_copy (T : Tx K mg) (b o : Nat) : FnR P w K mg base CX0 5 (ga K "_law_row") (spLawRow K (.copy b o)) := by
  refine fnr0 T.F_law_row sc_law_row (fun vs H Q E h => ?_) hb_law_row (fun cdv A outer s H vs Q E hr h => ?_)
  · obtain ⟨v, rfl, _⟩ := h
    rfl
  · obtain ⟨v, rfl, ⟨ta, rfl, ht0⟩, hok, k⟩ := h
    have ht := ht0
    refine ⟨_, (pss_cons (ps_set (i := 1) sc_law_row.nd rfl (.inl rfl) (pe_ix ix_tup (pv 0) pe_int (fun _ _ => rfl)))
      (pss_cons (ps_if (pt_cmpR op_in_seq (pv 1) (pe_lst (pa_cons pe_str (pa_cons pe_str (pa_cons pe_str (pa_cons pe_str pa_nil))))) (by rfl)) (pss_cons (ps_asg (pe_slice sl_tup (pv 0) (po_some pe_int) po_none) (pg_tup rfl (pgs_cons (pg_name (i := 2) sc_law_row.nd rfl (.inl rfl)) (pgs_cons (pg_name (i := 3) sc_law_row.nd rfl (.inl rfl)) pgs_nil)))) (pss_cons (ps_if (pt_cmpR op_eq (pv 1) pe_str (nomark _)) pss_never pss_nil) (pss_cons (ps_if (pt_cmpR op_eq (pv 1) pe_str (nomark _)) (pss_one (ps_ret (StX.pe_makeR T.mk_Copy (ok_init T (.copy b o)) (hr.mono (by decide)) rfl T.gl_Copy pass0 (pa_cons (pv 2) (pa_cons (pv 3) pa_nil))))) pss_nil) pss_never))) pss_nil)
      pss_never)), ?_⟩
    refine ⟨_, rfl, ta, _, _, .str "copy", rfl, rfl, ht, rfl, ?_⟩
    refine ⟨_, rfl, (by show 4 ≤ sizeLine; decide), fun p1 hp1 => ⟨p1, _, rfl, .inl (SqL.of upd_same), rfl, rfl, _, rfl, iteT ?_⟩⟩
    have s1 := Same.new (o := .lst [.str "set", .str "copy", .str "put", .str "get"]) hp1
    have ht := (Same.kp s1).seqT ht0
    refine ⟨_, rfl, _, rfl, ta, _, rfl, ht, cut3, fun q hq => ?_⟩
    have s2 := Same.new (o := .tup [vi b, vi o]) hq
    refine ⟨q, _, rfl, SqT.of upd_same, rfl, _, _, rfl, _, _, rfl, rfl, ?_⟩
    refine ⟨_, rfl, rfl, _, rfl, iteF ?_⟩
    exact ⟨_, rfl, rfl, _, rfl, iteT ⟨_, rfl, _, rfl, make_row (r := .copy b o) hok fun H' x s3 _ h => k H' x (Same.trans s1 (Same.trans s2 s3)) h⟩⟩
theorem r_law_row_add (T : Tx K mg) (b o t : Nat) : FnR P w K mg base CX0 5 (ga K "_law_row") (spLawRow K (.add b o t)) := by
  refine fnr0 T.F_law_row sc_law_row (fun vs H Q E h => ?_) hb_law_row (fun cdv A outer s H vs Q E hr h => ?_)
  · obtain ⟨v, rfl, _⟩ := h
    rfl
  · obtain ⟨v, rfl, ⟨ta, rfl, ht0⟩, hok, k⟩ := h
    have ht := ht0
    refine ⟨_, (pss_cons (ps_set (i := 1) sc_law_row.nd rfl (.inl rfl) (pe_ix ix_tup (pv 0) pe_int (fun _ _ => rfl)))
      (pss_cons (ps_if (pt_cmpR op_in_seq (pv 1) (pe_lst (pa_cons pe_str (pa_cons pe_str (pa_cons pe_str (pa_cons pe_str pa_nil))))) (by rfl)) pss_never pss_nil)
      (pss_cons (ps_if (pt_cmpR op_eq (pv 1) pe_str (nomark _)) (pss_one (ps_ret (StX.pe_makeR T.mk_Add (ok_init T (.add b o t)) (hr.mono (by decide)) rfl T.gl_Add pass0 (pa_cons (pe_ix ix_tup (pv 0) pe_int (fun _ _ => rfl)) (pa_cons (pe_ix ix_tup (pv 0) pe_int (fun _ _ => rfl)) (pa_cons (pe_ix ix_tup (pv 0) pe_int (fun _ _ => rfl)) pa_nil)))))) pss_nil)
      pss_never))), ?_⟩
    refine ⟨_, rfl, ta, _, _, .str "add", rfl, rfl, ht, rfl, ?_⟩
    refine ⟨_, rfl, (by show 4 ≤ sizeLine; decide), fun p1 hp1 => ⟨p1, _, rfl, .inl (SqL.of upd_same), rfl, rfl, _, rfl, iteF ?_⟩⟩
    have s1 := Same.new (o := .lst [.str "set", .str "copy", .str "put", .str "get"]) hp1
    have ht := (Same.kp s1).seqT ht0
    exact ⟨_, rfl, rfl, _, rfl, iteT ⟨_, rfl, ta, _, _, _, rfl, rfl, ht, rfl, _, rfl, ta, _, _, _, rfl, rfl, ht, rfl, _, rfl, ta, _, _, _, rfl, rfl, ht, rfl, make_row (r := .add b o t) hok fun H' x s3 _ h => k H' x (Same.trans s1 s3) h⟩⟩
theorem r_law_row_grow (T : Tx K mg) (m : Nat) : FnR P w K mg base CX0 5 (ga K "_law_row") (spLawRow K (.grow m)) := by
  refine fnr0 T.F_law_row sc_law_row (fun vs H Q E h => ?_) hb_law_row (fun cdv A outer s H vs Q E hr h => ?_)
  · obtain ⟨v, rfl, _⟩ := h
    rfl
  · obtain ⟨v, rfl, ⟨ta, rfl, ht0⟩, hok, k⟩ := h
    have ht := ht0
    refine ⟨_, (pss_cons (ps_set (i := 1) sc_law_row.nd rfl (.inl rfl) (pe_ix ix_tup (pv 0) pe_int (fun _ _ => rfl)))
      (pss_cons (ps_if (pt_cmpR op_in_seq (pv 1) (pe_lst (pa_cons pe_str (pa_cons pe_str (pa_cons pe_str (pa_cons pe_str pa_nil))))) (by rfl)) pss_never pss_nil)
      (pss_cons (ps_if (pt_cmpR op_eq (pv 1) pe_str (nomark _)) pss_never pss_nil)
      (pss_cons (ps_if (pt_cmpR op_eq (pv 1) pe_str (nomark _)) pss_never pss_nil)
      (pss_cons (ps_if (pt_cmpR op_in_seq (pv 1) (pe_lst (pa_cons pe_str (pa_cons pe_str pa_nil))) (by rfl)) (pss_one (ps_ret (pe_ix ix_list (pe_lst (pa_cons (StX.pe_makeR T.mk_Grow (ok_init T (.grow m)) (hr.mono (by decide)) rfl T.gl_Grow pass0 (pa_cons (pe_ix ix_tup (pv 0) pe_int (fun _ _ => rfl)) pa_nil)) (pa_cons (StX.pe_makeR T.mk_Shrink (ok_init T (.shrink m)) (hr.mono (by decide)) rfl T.gl_Shrink pass0 (pa_cons (pe_ix ix_tup (pv 0) pe_int (fun _ _ => rfl)) pa_nil)) pa_nil))) (pe_callTy call_int1 rfl T.fr_int (by decide +kernel) (pa_cons (pe_cmpR op_eq (pv 1) pe_str (nomark _)) pa_nil)) (fun _ _ => rfl)))) pss_nil)
      pss_never))))), ?_⟩
    refine ⟨_, rfl, ta, _, _, .str "grow", rfl, rfl, ht, rfl, ?_⟩
    refine ⟨_, rfl, (by show 4 ≤ sizeLine; decide), fun p1 hp1 => ⟨p1, _, rfl, .inl (SqL.of upd_same), rfl, rfl, _, rfl, iteF ?_⟩⟩
    have s1 := Same.new (o := .lst [.str "set", .str "copy", .str "put", .str "get"]) hp1
    have ht := (Same.kp s1).seqT ht0
    refine ⟨_, rfl, rfl, _, rfl, iteF ?_⟩
    refine ⟨_, rfl, rfl, _, rfl, iteF ?_⟩
    refine ⟨_, rfl, (by show 2 ≤ sizeLine; decide), fun p2 hp2 => ⟨p2, _, rfl, .inl (SqL.of upd_same), rfl, rfl, _, rfl, iteT ?_⟩⟩
    have s2 := Same.new (o := .lst [.str "grow", .str "shrink"]) hp2
    have s2 := Same.trans s1 s2
    have ht := (Same.kp s2).seqT ht0
    refine ⟨_, rfl, ta, _, _, _, rfl, rfl, ht, rfl, make_row (r := .grow m) hok fun H1 x1 t1 n1 w1 => ?_⟩
    refine ⟨_, rfl, ta, _, _, _, rfl, rfl, ((Same.kp t1).seqT ht), rfl, make_row (r := .shrink m) hok fun H2 x2 t2 n2 w2 => ⟨(by show 2 ≤ sizeLine; decide), fun l hl => ?_⟩⟩
    have sA := Same.trans s2 (Same.trans t1 (Same.trans t2 (Same.new (o := .lst [.ref x1, .ref x2]) hl)))
    exact ⟨_, rfl, rfl, .inr ⟨_, rfl, l, _, _, .ref x1, rfl, rfl, SqL.of upd_same, rfl, k _ x1 sA (RowAt.same (Same.trans t2 (Same.new hl)) w1)⟩⟩
theorem r_law_row_shrink (T : Tx K mg) (m : Nat) : FnR P w K mg base CX0 5 (ga K "_law_row") (spLawRow K (.shrink m)) := by
  refine fnr0 T.F_law_row sc_law_row (fun vs H Q E h => ?_) hb_law_row (fun cdv A outer s H vs Q E hr h => ?_)
  · obtain ⟨v, rfl, _⟩ := h
    rfl
  · obtain ⟨v, rfl, ⟨ta, rfl, ht0⟩, hok, k⟩ := h
    have ht := ht0
    refine ⟨_, (pss_cons (ps_set (i := 1) sc_law_row.nd rfl (.inl rfl) (pe_ix ix_tup (pv 0) pe_int (fun _ _ => rfl)))
      (pss_cons (ps_if (pt_cmpR op_in_seq (pv 1) (pe_lst (pa_cons pe_str (pa_cons pe_str (pa_cons pe_str (pa_cons pe_str pa_nil))))) (by rfl)) pss_never pss_nil)
      (pss_cons (ps_if (pt_cmpR op_eq (pv 1) pe_str (nomark _)) pss_never pss_nil)
      (pss_cons (ps_if (pt_cmpR op_eq (pv 1) pe_str (nomark _)) pss_never pss_nil)
      (pss_cons (ps_if (pt_cmpR op_in_seq (pv 1) (pe_lst (pa_cons pe_str (pa_cons pe_str pa_nil))) (by rfl)) (pss_one (ps_ret (pe_ix ix_list (pe_lst (pa_cons (StX.pe_makeR T.mk_Grow (ok_init T (.grow m)) (hr.mono (by decide)) rfl T.gl_Grow pass0 (pa_cons (pe_ix ix_tup (pv 0) pe_int (fun _ _ => rfl)) pa_nil)) (pa_cons (StX.pe_makeR T.mk_Shrink (ok_init T (.shrink m)) (hr.mono (by decide)) rfl T.gl_Shrink pass0 (pa_cons (pe_ix ix_tup (pv 0) pe_int (fun _ _ => rfl)) pa_nil)) pa_nil))) (pe_callTy call_int1 rfl T.fr_int (by decide +kernel) (pa_cons (pe_cmpR op_eq (pv 1) pe_str (nomark _)) pa_nil)) (fun _ _ => rfl)))) pss_nil)
      pss_never))))), ?_⟩
    refine ⟨_, rfl, ta, _, _, .str "shrink", rfl, rfl, ht, rfl, ?_⟩
    refine ⟨_, rfl, (by show 4 ≤ sizeLine; decide), fun p1 hp1 => ⟨p1, _, rfl, .inl (SqL.of upd_same), rfl, rfl, _, rfl, iteF ?_⟩⟩
    have s1 := Same.new (o := .lst [.str "set", .str "copy", .str "put", .str "get"]) hp1
    have ht := (Same.kp s1).seqT ht0
    refine ⟨_, rfl, rfl, _, rfl, iteF ?_⟩
    refine ⟨_, rfl, rfl, _, rfl, iteF ?_⟩
    refine ⟨_, rfl, (by show 2 ≤ sizeLine; decide), fun p2 hp2 => ⟨p2, _, rfl, .inl (SqL.of upd_same), rfl, rfl, _, rfl, iteT ?_⟩⟩
    have s2 := Same.new (o := .lst [.str "grow", .str "shrink"]) hp2
    have s2 := Same.trans s1 s2
    have ht := (Same.kp s2).seqT ht0
    refine ⟨_, rfl, ta, _, _, _, rfl, rfl, ht, rfl, make_row (r := .grow m) hok fun H1 x1 t1 n1 w1 => ?_⟩
    refine ⟨_, rfl, ta, _, _, _, rfl, rfl, ((Same.kp t1).seqT ht), rfl, make_row (r := .shrink m) hok fun H2 x2 t2 n2 w2 => ⟨(by show 2 ≤ sizeLine; decide), fun l hl => ?_⟩⟩
    have sA := Same.trans s2 (Same.trans t1 (Same.trans t2 (Same.new (o := .lst [.ref x1, .ref x2]) hl)))
    exact ⟨_, rfl, rfl, .inr ⟨_, rfl, l, _, _, .ref x2, rfl, rfl, SqL.of upd_same, rfl, k _ x2 sA (RowAt.same (Same.new hl) w2)⟩⟩
theorem r_law_row_put (T : Tx K mg) (b c : Nat) : FnR P w K mg base CX0 5 (ga K "_law_row") (spLawRow K (.put b c)) := by
  refine fnr0 T.F_law_row sc_law_row (fun vs H Q E h => ?_) hb_law_row (fun cdv A outer s H vs Q E hr h => ?_)
  · obtain ⟨v, rfl, _⟩ := h
    rfl
  · obtain ⟨v, rfl, ⟨ta, rfl, ht0⟩, hok, k⟩ := h
    have ht := ht0
    refine ⟨_, (pss_cons (ps_set (i := 1) sc_law_row.nd rfl (.inl rfl) (pe_ix ix_tup (pv 0) pe_int (fun _ _ => rfl)))
      (pss_cons (ps_if (pt_cmpR op_in_seq (pv 1) (pe_lst (pa_cons pe_str (pa_cons pe_str (pa_cons pe_str (pa_cons pe_str pa_nil))))) (by rfl)) (pss_cons (ps_asg (pe_slice sl_tup (pv 0) (po_some pe_int) po_none) (pg_tup rfl (pgs_cons (pg_name (i := 2) sc_law_row.nd rfl (.inl rfl)) (pgs_cons (pg_name (i := 3) sc_law_row.nd rfl (.inl rfl)) pgs_nil)))) (pss_cons (ps_if (pt_cmpR op_eq (pv 1) pe_str (nomark _)) pss_never pss_nil) (pss_cons (ps_if (pt_cmpR op_eq (pv 1) pe_str (nomark _)) pss_never pss_nil) (pss_one (ps_ret (pe_ix ix_list (pe_lst (pa_cons (StX.pe_makeR T.mk_Put (ok_init T (.put b c)) (hr.mono (by decide)) rfl T.gl_Put pass0 (pa_cons (pv 2) (pa_cons (pv 3) pa_nil))) (pa_cons (StX.pe_makeR T.mk_Get (ok_init T (.get b c)) (hr.mono (by decide)) rfl T.gl_Get pass0 (pa_cons (pv 2) (pa_cons (pv 3) pa_nil))) pa_nil))) (pe_callTy call_int1 rfl T.fr_int (by decide +kernel) (pa_cons (pe_cmpR op_eq (pv 1) pe_str (nomark _)) pa_nil)) (fun _ _ => rfl))))))) pss_nil)
      pss_never)), ?_⟩
    refine ⟨_, rfl, ta, _, _, .str "put", rfl, rfl, ht, rfl, ?_⟩
    refine ⟨_, rfl, (by show 4 ≤ sizeLine; decide), fun p1 hp1 => ⟨p1, _, rfl, .inl (SqL.of upd_same), rfl, rfl, _, rfl, iteT ?_⟩⟩
    have s1 := Same.new (o := .lst [.str "set", .str "copy", .str "put", .str "get"]) hp1
    have ht := (Same.kp s1).seqT ht0
    refine ⟨_, rfl, _, rfl, ta, _, rfl, ht, cut3, fun q hq => ?_⟩
    have s2 := Same.new (o := .tup [vi b, vi c]) hq
    refine ⟨q, _, rfl, SqT.of upd_same, rfl, _, _, rfl, _, _, rfl, rfl, ?_⟩
    refine ⟨_, rfl, rfl, _, rfl, iteF ?_⟩
    refine ⟨_, rfl, rfl, _, rfl, iteF ?_⟩
    refine ⟨_, rfl, _, rfl, make_row (r := .put b c) hok fun H1 x1 t1 n1 w1 => ?_⟩
    refine ⟨_, rfl, _, rfl, make_row (r := .get b c) hok fun H2 x2 t2 n2 w2 => ⟨(by show 2 ≤ sizeLine; decide), fun l hl => ?_⟩⟩
    have sA := Same.trans (Same.trans s1 s2) (Same.trans t1 (Same.trans t2 (Same.new (o := .lst [.ref x1, .ref x2]) hl)))
    exact ⟨_, rfl, rfl, .inr ⟨_, rfl, l, _, _, .ref x1, rfl, rfl, SqL.of upd_same, rfl, k _ x1 sA (RowAt.same (Same.trans t2 (Same.new hl)) w1)⟩⟩
theorem r_law_row_get (T : Tx K mg) (b c : Nat) : FnR P w K mg base CX0 5 (ga K "_law_row") (spLawRow K (.get b c)) := by
  refine fnr0 T.F_law_row sc_law_row (fun vs H Q E h => ?_) hb_law_row (fun cdv A outer s H vs Q E hr h => ?_)
  · obtain ⟨v, rfl, _⟩ := h
    rfl
  · obtain ⟨v, rfl, ⟨ta, rfl, ht0⟩, hok, k⟩ := h
    have ht := ht0
    refine ⟨_, (pss_cons (ps_set (i := 1) sc_law_row.nd rfl (.inl rfl) (pe_ix ix_tup (pv 0) pe_int (fun _ _ => rfl)))
      (pss_cons (ps_if (pt_cmpR op_in_seq (pv 1) (pe_lst (pa_cons pe_str (pa_cons pe_str (pa_cons pe_str (pa_cons pe_str pa_nil))))) (by rfl)) (pss_cons (ps_asg (pe_slice sl_tup (pv 0) (po_some pe_int) po_none) (pg_tup rfl (pgs_cons (pg_name (i := 2) sc_law_row.nd rfl (.inl rfl)) (pgs_cons (pg_name (i := 3) sc_law_row.nd rfl (.inl rfl)) pgs_nil)))) (pss_cons (ps_if (pt_cmpR op_eq (pv 1) pe_str (nomark _)) pss_never pss_nil) (pss_cons (ps_if (pt_cmpR op_eq (pv 1) pe_str (nomark _)) pss_never pss_nil) (pss_one (ps_ret (pe_ix ix_list (pe_lst (pa_cons (StX.pe_makeR T.mk_Put (ok_init T (.put b c)) (hr.mono (by decide)) rfl T.gl_Put pass0 (pa_cons (pv 2) (pa_cons (pv 3) pa_nil))) (pa_cons (StX.pe_makeR T.mk_Get (ok_init T (.get b c)) (hr.mono (by decide)) rfl T.gl_Get pass0 (pa_cons (pv 2) (pa_cons (pv 3) pa_nil))) pa_nil))) (pe_callTy call_int1 rfl T.fr_int (by decide +kernel) (pa_cons (pe_cmpR op_eq (pv 1) pe_str (nomark _)) pa_nil)) (fun _ _ => rfl))))))) pss_nil)
      pss_never)), ?_⟩
    refine ⟨_, rfl, ta, _, _, .str "get", rfl, rfl, ht, rfl, ?_⟩
    refine ⟨_, rfl, (by show 4 ≤ sizeLine; decide), fun p1 hp1 => ⟨p1, _, rfl, .inl (SqL.of upd_same), rfl, rfl, _, rfl, iteT ?_⟩⟩
    have s1 := Same.new (o := .lst [.str "set", .str "copy", .str "put", .str "get"]) hp1
    have ht := (Same.kp s1).seqT ht0
    refine ⟨_, rfl, _, rfl, ta, _, rfl, ht, cut3, fun q hq => ?_⟩
    have s2 := Same.new (o := .tup [vi b, vi c]) hq
    refine ⟨q, _, rfl, SqT.of upd_same, rfl, _, _, rfl, _, _, rfl, rfl, ?_⟩
    refine ⟨_, rfl, rfl, _, rfl, iteF ?_⟩
    refine ⟨_, rfl, rfl, _, rfl, iteF ?_⟩
    refine ⟨_, rfl, _, rfl, make_row (r := .put b c) hok fun H1 x1 t1 n1 w1 => ?_⟩
    refine ⟨_, rfl, _, rfl, make_row (r := .get b c) hok fun H2 x2 t2 n2 w2 => ⟨(by show 2 ≤ sizeLine; decide), fun l hl => ?_⟩⟩
    have sA := Same.trans (Same.trans s1 s2) (Same.trans t1 (Same.trans t2 (Same.new (o := .lst [.ref x1, .ref x2]) hl)))
    exact ⟨_, rfl, rfl, .inr ⟨_, rfl, l, _, _, .ref x2, rfl, rfl, SqL.of upd_same, rfl, k _ x2 sA (RowAt.same (Same.new hl) w2)⟩⟩
theorem r_law_row_jump (T : Tx K mg) (t : Nat) : FnR P w K mg base CX0 5 (ga K "_law_row") (spLawRow K (.jump t)) := by
  refine fnr0 T.F_law_row sc_law_row (fun vs H Q E h => ?_) hb_law_row (fun cdv A outer s H vs Q E hr h => ?_)
  · obtain ⟨v, rfl, _⟩ := h
    rfl
  · obtain ⟨v, rfl, ⟨ta, rfl, ht0⟩, hok, k⟩ := h
    have ht := ht0
    refine ⟨_, (pss_cons (ps_set (i := 1) sc_law_row.nd rfl (.inl rfl) (pe_ix ix_tup (pv 0) pe_int (fun _ _ => rfl)))
      (pss_cons (ps_if (pt_cmpR op_in_seq (pv 1) (pe_lst (pa_cons pe_str (pa_cons pe_str (pa_cons pe_str (pa_cons pe_str pa_nil))))) (by rfl)) pss_never pss_nil)
      (pss_cons (ps_if (pt_cmpR op_eq (pv 1) pe_str (nomark _)) pss_never pss_nil)
      (pss_cons (ps_if (pt_cmpR op_eq (pv 1) pe_str (nomark _)) pss_never pss_nil)
      (pss_cons (ps_if (pt_cmpR op_in_seq (pv 1) (pe_lst (pa_cons pe_str (pa_cons pe_str pa_nil))) (by rfl)) pss_never pss_nil)
      (pss_cons (ps_if (pt_cmpR op_in_seq (pv 1) (pe_lst (pa_cons pe_str (pa_cons pe_str pa_nil))) (by rfl)) pss_never pss_nil)
      (pss_one (ps_ret (pe_ix ix_list (pe_lst (pa_cons (StX.pe_makeR T.mk_Jump (ok_init T (.jump t)) (hr.mono (by decide)) rfl T.gl_Jump pass0 (pa_cons (pe_ix ix_tup (pv 0) pe_int (fun _ _ => rfl)) pa_nil)) (pa_cons (StX.pe_makeR T.mk_Call (ok_init T (.call t)) (hr.mono (by decide)) rfl T.gl_Call pass0 (pa_cons (pe_ix ix_tup (pv 0) pe_int (fun _ _ => rfl)) pa_nil)) pa_nil))) (pe_callTy call_int1 rfl T.fr_int (by decide +kernel) (pa_cons (pe_cmpR op_eq (pv 1) pe_str (nomark _)) pa_nil)) (fun _ _ => rfl)))))))))), ?_⟩
    refine ⟨_, rfl, ta, _, _, .str "jump", rfl, rfl, ht, rfl, ?_⟩
    refine ⟨_, rfl, (by show 4 ≤ sizeLine; decide), fun p1 hp1 => ⟨p1, _, rfl, .inl (SqL.of upd_same), rfl, rfl, _, rfl, iteF ?_⟩⟩
    have s1 := Same.new (o := .lst [.str "set", .str "copy", .str "put", .str "get"]) hp1
    have ht := (Same.kp s1).seqT ht0
    refine ⟨_, rfl, rfl, _, rfl, iteF ?_⟩
    refine ⟨_, rfl, rfl, _, rfl, iteF ?_⟩
    refine ⟨_, rfl, (by show 2 ≤ sizeLine; decide), fun p2 hp2 => ⟨p2, _, rfl, .inl (SqL.of upd_same), rfl, rfl, _, rfl, iteF ?_⟩⟩
    have s2 := Same.new (o := .lst [.str "grow", .str "shrink"]) hp2
    have s2 := Same.trans s1 s2
    have ht := (Same.kp s2).seqT ht0
    refine ⟨_, rfl, (by show 2 ≤ sizeLine; decide), fun p3 hp3 => ⟨p3, _, rfl, .inl (SqL.of upd_same), rfl, rfl, _, rfl, iteF ?_⟩⟩
    have s3 := Same.new (o := .lst [.str "back", .str "drop"]) hp3
    have s3 := Same.trans s2 s3
    have ht := (Same.kp s3).seqT ht0
    refine ⟨_, rfl, ta, _, _, _, rfl, rfl, ht, rfl, make_row (r := .jump t) hok fun H1 x1 t1 n1 w1 => ?_⟩
    refine ⟨_, rfl, ta, _, _, _, rfl, rfl, ((Same.kp t1).seqT ht), rfl, make_row (r := .call t) hok fun H2 x2 t2 n2 w2 => ⟨(by show 2 ≤ sizeLine; decide), fun l hl => ?_⟩⟩
    have sA := Same.trans s3 (Same.trans t1 (Same.trans t2 (Same.new (o := .lst [.ref x1, .ref x2]) hl)))
    exact ⟨_, rfl, rfl, .inr ⟨_, rfl, l, _, _, .ref x1, rfl, rfl, SqL.of upd_same, rfl, k _ x1 sA (RowAt.same (Same.trans t2 (Same.new hl)) w1)⟩⟩
theorem r_law_row_branch (T : Tx K mg) (b t : Nat) : FnR P w K mg base CX0 5 (ga K "_law_row") (spLawRow K (.branch b t)) := by
  refine fnr0 T.F_law_row sc_law_row (fun vs H Q E h => ?_) hb_law_row (fun cdv A outer s H vs Q E hr h => ?_)
  · obtain ⟨v, rfl, _⟩ := h
    rfl
  · obtain ⟨v, rfl, ⟨ta, rfl, ht0⟩, hok, k⟩ := h
    have ht := ht0
    refine ⟨_, (pss_cons (ps_set (i := 1) sc_law_row.nd rfl (.inl rfl) (pe_ix ix_tup (pv 0) pe_int (fun _ _ => rfl)))
      (pss_cons (ps_if (pt_cmpR op_in_seq (pv 1) (pe_lst (pa_cons pe_str (pa_cons pe_str (pa_cons pe_str (pa_cons pe_str pa_nil))))) (by rfl)) pss_never pss_nil)
      (pss_cons (ps_if (pt_cmpR op_eq (pv 1) pe_str (nomark _)) pss_never pss_nil)
      (pss_cons (ps_if (pt_cmpR op_eq (pv 1) pe_str (nomark _)) (pss_one (ps_ret (StX.pe_makeR T.mk_Branch (ok_init T (.branch b t)) (hr.mono (by decide)) rfl T.gl_Branch pass0 (pa_cons (pe_ix ix_tup (pv 0) pe_int (fun _ _ => rfl)) (pa_cons (pe_ix ix_tup (pv 0) pe_int (fun _ _ => rfl)) pa_nil))))) pss_nil)
      pss_never)))), ?_⟩
    refine ⟨_, rfl, ta, _, _, .str "branch", rfl, rfl, ht, rfl, ?_⟩
    refine ⟨_, rfl, (by show 4 ≤ sizeLine; decide), fun p1 hp1 => ⟨p1, _, rfl, .inl (SqL.of upd_same), rfl, rfl, _, rfl, iteF ?_⟩⟩
    have s1 := Same.new (o := .lst [.str "set", .str "copy", .str "put", .str "get"]) hp1
    have ht := (Same.kp s1).seqT ht0
    refine ⟨_, rfl, rfl, _, rfl, iteF ?_⟩
    exact ⟨_, rfl, rfl, _, rfl, iteT ⟨_, rfl, ta, _, _, _, rfl, rfl, ht, rfl, _, rfl, ta, _, _, _, rfl, rfl, ht, rfl, make_row (r := .branch b t) hok fun H' x s3 _ h => k H' x (Same.trans s1 s3) h⟩⟩
theorem r_law_row_call (T : Tx K mg) (t : Nat) : FnR P w K mg base CX0 5 (ga K "_law_row") (spLawRow K (.call t)) := by
  refine fnr0 T.F_law_row sc_law_row (fun vs H Q E h => ?_) hb_law_row (fun cdv A outer s H vs Q E hr h => ?_)
  · obtain ⟨v, rfl, _⟩ := h
    rfl
  · obtain ⟨v, rfl, ⟨ta, rfl, ht0⟩, hok, k⟩ := h
    have ht := ht0
    refine ⟨_, (pss_cons (ps_set (i := 1) sc_law_row.nd rfl (.inl rfl) (pe_ix ix_tup (pv 0) pe_int (fun _ _ => rfl)))
      (pss_cons (ps_if (pt_cmpR op_in_seq (pv 1) (pe_lst (pa_cons pe_str (pa_cons pe_str (pa_cons pe_str (pa_cons pe_str pa_nil))))) (by rfl)) pss_never pss_nil)
      (pss_cons (ps_if (pt_cmpR op_eq (pv 1) pe_str (nomark _)) pss_never pss_nil)
      (pss_cons (ps_if (pt_cmpR op_eq (pv 1) pe_str (nomark _)) pss_never pss_nil)
      (pss_cons (ps_if (pt_cmpR op_in_seq (pv 1) (pe_lst (pa_cons pe_str (pa_cons pe_str pa_nil))) (by rfl)) pss_never pss_nil)
      (pss_cons (ps_if (pt_cmpR op_in_seq (pv 1) (pe_lst (pa_cons pe_str (pa_cons pe_str pa_nil))) (by rfl)) pss_never pss_nil)
      (pss_one (ps_ret (pe_ix ix_list (pe_lst (pa_cons (StX.pe_makeR T.mk_Jump (ok_init T (.jump t)) (hr.mono (by decide)) rfl T.gl_Jump pass0 (pa_cons (pe_ix ix_tup (pv 0) pe_int (fun _ _ => rfl)) pa_nil)) (pa_cons (StX.pe_makeR T.mk_Call (ok_init T (.call t)) (hr.mono (by decide)) rfl T.gl_Call pass0 (pa_cons (pe_ix ix_tup (pv 0) pe_int (fun _ _ => rfl)) pa_nil)) pa_nil))) (pe_callTy call_int1 rfl T.fr_int (by decide +kernel) (pa_cons (pe_cmpR op_eq (pv 1) pe_str (nomark _)) pa_nil)) (fun _ _ => rfl)))))))))), ?_⟩
    refine ⟨_, rfl, ta, _, _, .str "call", rfl, rfl, ht, rfl, ?_⟩
    refine ⟨_, rfl, (by show 4 ≤ sizeLine; decide), fun p1 hp1 => ⟨p1, _, rfl, .inl (SqL.of upd_same), rfl, rfl, _, rfl, iteF ?_⟩⟩
    have s1 := Same.new (o := .lst [.str "set", .str "copy", .str "put", .str "get"]) hp1
    have ht := (Same.kp s1).seqT ht0
    refine ⟨_, rfl, rfl, _, rfl, iteF ?_⟩
    refine ⟨_, rfl, rfl, _, rfl, iteF ?_⟩
    refine ⟨_, rfl, (by show 2 ≤ sizeLine; decide), fun p2 hp2 => ⟨p2, _, rfl, .inl (SqL.of upd_same), rfl, rfl, _, rfl, iteF ?_⟩⟩
    have s2 := Same.new (o := .lst [.str "grow", .str "shrink"]) hp2
    have s2 := Same.trans s1 s2
    have ht := (Same.kp s2).seqT ht0
    refine ⟨_, rfl, (by show 2 ≤ sizeLine; decide), fun p3 hp3 => ⟨p3, _, rfl, .inl (SqL.of upd_same), rfl, rfl, _, rfl, iteF ?_⟩⟩
    have s3 := Same.new (o := .lst [.str "back", .str "drop"]) hp3
    have s3 := Same.trans s2 s3
    have ht := (Same.kp s3).seqT ht0
    refine ⟨_, rfl, ta, _, _, _, rfl, rfl, ht, rfl, make_row (r := .jump t) hok fun H1 x1 t1 n1 w1 => ?_⟩
    refine ⟨_, rfl, ta, _, _, _, rfl, rfl, ((Same.kp t1).seqT ht), rfl, make_row (r := .call t) hok fun H2 x2 t2 n2 w2 => ⟨(by show 2 ≤ sizeLine; decide), fun l hl => ?_⟩⟩
    have sA := Same.trans s3 (Same.trans t1 (Same.trans t2 (Same.new (o := .lst [.ref x1, .ref x2]) hl)))
    exact ⟨_, rfl, rfl, .inr ⟨_, rfl, l, _, _, .ref x2, rfl, rfl, SqL.of upd_same, rfl, k _ x2 sA (RowAt.same (Same.new hl) w2)⟩⟩
theorem r_law_row_back (T : Tx K mg) (b : Nat) : FnR P w K mg base CX0 5 (ga K "_law_row") (spLawRow K (.back b)) := by
  refine fnr0 T.F_law_row sc_law_row (fun vs H Q E h => ?_) hb_law_row (fun cdv A outer s H vs Q E hr h => ?_)
  · obtain ⟨v, rfl, _⟩ := h
    rfl
  · obtain ⟨v, rfl, ⟨ta, rfl, ht0⟩, hok, k⟩ := h
    have ht := ht0
    refine ⟨_, (pss_cons (ps_set (i := 1) sc_law_row.nd rfl (.inl rfl) (pe_ix ix_tup (pv 0) pe_int (fun _ _ => rfl)))
      (pss_cons (ps_if (pt_cmpR op_in_seq (pv 1) (pe_lst (pa_cons pe_str (pa_cons pe_str (pa_cons pe_str (pa_cons pe_str pa_nil))))) (by rfl)) pss_never pss_nil)
      (pss_cons (ps_if (pt_cmpR op_eq (pv 1) pe_str (nomark _)) pss_never pss_nil)
      (pss_cons (ps_if (pt_cmpR op_eq (pv 1) pe_str (nomark _)) pss_never pss_nil)
      (pss_cons (ps_if (pt_cmpR op_in_seq (pv 1) (pe_lst (pa_cons pe_str (pa_cons pe_str pa_nil))) (by rfl)) pss_never pss_nil)
      (pss_cons (ps_if (pt_cmpR op_in_seq (pv 1) (pe_lst (pa_cons pe_str (pa_cons pe_str pa_nil))) (by rfl)) (pss_one (ps_ret (pe_ix ix_list (pe_lst (pa_cons (StX.pe_makeR T.mk_Back (ok_init T (.back b)) (hr.mono (by decide)) rfl T.gl_Back pass0 (pa_cons (pe_ix ix_tup (pv 0) pe_int (fun _ _ => rfl)) pa_nil)) (pa_cons (StX.pe_makeR T.mk_Drop (ok_init T (.drop b)) (hr.mono (by decide)) rfl T.gl_Drop pass0 (pa_cons (pe_ix ix_tup (pv 0) pe_int (fun _ _ => rfl)) pa_nil)) pa_nil))) (pe_callTy call_int1 rfl T.fr_int (by decide +kernel) (pa_cons (pe_cmpR op_eq (pv 1) pe_str (nomark _)) pa_nil)) (fun _ _ => rfl)))) pss_nil)
      pss_never)))))), ?_⟩
    refine ⟨_, rfl, ta, _, _, .str "back", rfl, rfl, ht, rfl, ?_⟩
    refine ⟨_, rfl, (by show 4 ≤ sizeLine; decide), fun p1 hp1 => ⟨p1, _, rfl, .inl (SqL.of upd_same), rfl, rfl, _, rfl, iteF ?_⟩⟩
    have s1 := Same.new (o := .lst [.str "set", .str "copy", .str "put", .str "get"]) hp1
    have ht := (Same.kp s1).seqT ht0
    refine ⟨_, rfl, rfl, _, rfl, iteF ?_⟩
    refine ⟨_, rfl, rfl, _, rfl, iteF ?_⟩
    refine ⟨_, rfl, (by show 2 ≤ sizeLine; decide), fun p2 hp2 => ⟨p2, _, rfl, .inl (SqL.of upd_same), rfl, rfl, _, rfl, iteF ?_⟩⟩
    have s2 := Same.new (o := .lst [.str "grow", .str "shrink"]) hp2
    have s2 := Same.trans s1 s2
    have ht := (Same.kp s2).seqT ht0
    refine ⟨_, rfl, (by show 2 ≤ sizeLine; decide), fun p3 hp3 => ⟨p3, _, rfl, .inl (SqL.of upd_same), rfl, rfl, _, rfl, iteT ?_⟩⟩
    have s3 := Same.new (o := .lst [.str "back", .str "drop"]) hp3
    have s3 := Same.trans s2 s3
    have ht := (Same.kp s3).seqT ht0
    refine ⟨_, rfl, ta, _, _, _, rfl, rfl, ht, rfl, make_row (r := .back b) hok fun H1 x1 t1 n1 w1 => ?_⟩
    refine ⟨_, rfl, ta, _, _, _, rfl, rfl, ((Same.kp t1).seqT ht), rfl, make_row (r := .drop b) hok fun H2 x2 t2 n2 w2 => ⟨(by show 2 ≤ sizeLine; decide), fun l hl => ?_⟩⟩
    have sA := Same.trans s3 (Same.trans t1 (Same.trans t2 (Same.new (o := .lst [.ref x1, .ref x2]) hl)))
    exact ⟨_, rfl, rfl, .inr ⟨_, rfl, l, _, _, .ref x1, rfl, rfl, SqL.of upd_same, rfl, k _ x1 sA (RowAt.same (Same.trans t2 (Same.new hl)) w1)⟩⟩
theorem r_law_row_drop (T : Tx K mg) (b : Nat) : FnR P w K mg base CX0 5 (ga K "_law_row") (spLawRow K (.drop b)) := by
  refine fnr0 T.F_law_row sc_law_row (fun vs H Q E h => ?_) hb_law_row (fun cdv A outer s H vs Q E hr h => ?_)
  · obtain ⟨v, rfl, _⟩ := h
    rfl
  · obtain ⟨v, rfl, ⟨ta, rfl, ht0⟩, hok, k⟩ := h
    have ht := ht0
    refine ⟨_, (pss_cons (ps_set (i := 1) sc_law_row.nd rfl (.inl rfl) (pe_ix ix_tup (pv 0) pe_int (fun _ _ => rfl)))
      (pss_cons (ps_if (pt_cmpR op_in_seq (pv 1) (pe_lst (pa_cons pe_str (pa_cons pe_str (pa_cons pe_str (pa_cons pe_str pa_nil))))) (by rfl)) pss_never pss_nil)
      (pss_cons (ps_if (pt_cmpR op_eq (pv 1) pe_str (nomark _)) pss_never pss_nil)
      (pss_cons (ps_if (pt_cmpR op_eq (pv 1) pe_str (nomark _)) pss_never pss_nil)
      (pss_cons (ps_if (pt_cmpR op_in_seq (pv 1) (pe_lst (pa_cons pe_str (pa_cons pe_str pa_nil))) (by rfl)) pss_never pss_nil)
      (pss_cons (ps_if (pt_cmpR op_in_seq (pv 1) (pe_lst (pa_cons pe_str (pa_cons pe_str pa_nil))) (by rfl)) (pss_one (ps_ret (pe_ix ix_list (pe_lst (pa_cons (StX.pe_makeR T.mk_Back (ok_init T (.back b)) (hr.mono (by decide)) rfl T.gl_Back pass0 (pa_cons (pe_ix ix_tup (pv 0) pe_int (fun _ _ => rfl)) pa_nil)) (pa_cons (StX.pe_makeR T.mk_Drop (ok_init T (.drop b)) (hr.mono (by decide)) rfl T.gl_Drop pass0 (pa_cons (pe_ix ix_tup (pv 0) pe_int (fun _ _ => rfl)) pa_nil)) pa_nil))) (pe_callTy call_int1 rfl T.fr_int (by decide +kernel) (pa_cons (pe_cmpR op_eq (pv 1) pe_str (nomark _)) pa_nil)) (fun _ _ => rfl)))) pss_nil)
      pss_never)))))), ?_⟩
    refine ⟨_, rfl, ta, _, _, .str "drop", rfl, rfl, ht, rfl, ?_⟩
    refine ⟨_, rfl, (by show 4 ≤ sizeLine; decide), fun p1 hp1 => ⟨p1, _, rfl, .inl (SqL.of upd_same), rfl, rfl, _, rfl, iteF ?_⟩⟩
    have s1 := Same.new (o := .lst [.str "set", .str "copy", .str "put", .str "get"]) hp1
    have ht := (Same.kp s1).seqT ht0
    refine ⟨_, rfl, rfl, _, rfl, iteF ?_⟩
    refine ⟨_, rfl, rfl, _, rfl, iteF ?_⟩
    refine ⟨_, rfl, (by show 2 ≤ sizeLine; decide), fun p2 hp2 => ⟨p2, _, rfl, .inl (SqL.of upd_same), rfl, rfl, _, rfl, iteF ?_⟩⟩
    have s2 := Same.new (o := .lst [.str "grow", .str "shrink"]) hp2
    have s2 := Same.trans s1 s2
    have ht := (Same.kp s2).seqT ht0
    refine ⟨_, rfl, (by show 2 ≤ sizeLine; decide), fun p3 hp3 => ⟨p3, _, rfl, .inl (SqL.of upd_same), rfl, rfl, _, rfl, iteT ?_⟩⟩
    have s3 := Same.new (o := .lst [.str "back", .str "drop"]) hp3
    have s3 := Same.trans s2 s3
    have ht := (Same.kp s3).seqT ht0
    refine ⟨_, rfl, ta, _, _, _, rfl, rfl, ht, rfl, make_row (r := .back b) hok fun H1 x1 t1 n1 w1 => ?_⟩
    refine ⟨_, rfl, ta, _, _, _, rfl, rfl, ((Same.kp t1).seqT ht), rfl, make_row (r := .drop b) hok fun H2 x2 t2 n2 w2 => ⟨(by show 2 ≤ sizeLine; decide), fun l hl => ?_⟩⟩
    have sA := Same.trans s3 (Same.trans t1 (Same.trans t2 (Same.new (o := .lst [.ref x1, .ref x2]) hl)))
    exact ⟨_, rfl, rfl, .inr ⟨_, rfl, l, _, _, .ref x2, rfl, rfl, SqL.of upd_same, rfl, k _ x2 sA (RowAt.same (Same.new hl) w2)⟩⟩
theorem r_law_row (T : Tx K mg) : ∀ r : RowD, FnR P w K mg base CX0 5 (ga K "_law_row") (spLawRow K r)
  | .set b n => r_law_row_set T b n
  | .copy b o => r_law_row_copy T b o
  | .add b o t => r_law_row_add T b o t
  | .grow m => r_law_row_grow T m
  | .shrink m => r_law_row_shrink T m
  | .put b c => r_law_row_put T b c
  | .get b c => r_law_row_get T b c
  | .jump t => r_law_row_jump T t
  | .branch b t => r_law_row_branch T b t
  | .call t => r_law_row_call T t
  | .back b => r_law_row_back T b
  | .drop b => r_law_row_drop T b
end
end Fb

set_option Elab.async false
set_option linter.all false
set_option maxRecDepth 100000
set_option maxHeartbeats 4000000
namespace Fb
open PySem PySem.Spec PyProof.Rows L2
open He (ga ma)
section
variable {P : Program} {w : World} {K : PySem.W.Frag} {mg : Str → Option Value} {base : Heap}
/-! ### any row -/
def spAnyRow (K : PySem.W.Frag) : Sp := fun vs H Q _ => ∃ (z : Int) (many : Nat), vs = [.int z, vi many] ∧ 0 < many ∧ many ≤ 12 ∧ ∀ H' v r, Same H H' → TellV K false H' v r → r.ok → Q v H'
theorem tell_new {neg : Bool} {H : Hp} {p : Addr} {r : RowD} {xs : List V} (e : xs = tupOf neg r) : TellV K neg (upd H p (.tup xs)) (.ref p) r := ⟨p, rfl, SqT.of (by rw [upd_same, e])⟩
theorem r_any_row (T : Tx K mg) : FnR P w K mg base CX0 1 (ga K "_law_any_row") (spAnyRow K) := by
  refine fnr0 T.F_law_any_row sc_law_any_row (fun vs H Q E h => ?_) hb_law_any_row (fun cdv A outer s H vs Q E hr h => ?_)
  · obtain ⟨z, many, rfl, _⟩ := h
    rfl
  · obtain ⟨z, many, rfl, h0, h12, k⟩ := h
    refine ⟨_, pss_cons (ps_set (i := 2) sc_law_any_row.nd rfl (.inl rfl) (pe_op op_mod (pv 0) pe_int))
      (pss_cons (ps_set (i := 3) sc_law_any_row.nd rfl (.inl rfl) (pe_op op_mod (pe_op op_fdivN (pv 0) pe_int) pe_int))
      (pss_cons (ps_set (i := 4) sc_law_any_row.nd rfl (.inl rfl) (pe_op op_fdivN (pv 0) pe_int))
      (pss_cons (ps_if (pt_cmpR op_lt (pv 2) pe_int (nomark _)) (pss_one (ps_ret (pe_ix ix_list (pe_lst (pa_cons (pe_tup (pa_cons pe_str (pa_cons (pv 3) (pa_cons (pe_op op_mod (pv 4) pe_int) pa_nil)))) (pa_cons (pe_tup (pa_cons pe_str (pa_cons (pv 3) (pa_cons (pe_op op_mod (pv 4) pe_int) pa_nil))))
          (pa_cons (pe_tup (pa_cons pe_str (pa_cons (pv 3) (pa_cons (pe_op op_mod (pv 4) pe_int) (pa_cons (pe_op op_mod (pe_op op_fdivN (pv 4) pe_int) pe_int) pa_nil))))) pa_nil)))) (pv 2) (fun _ _ => rfl)))) pss_nil)
      (pss_cons (ps_if (pt_cmpR op_lt (pv 2) pe_int (nomark _)) (pss_one (ps_ret (pe_tup (pa_cons (pe_ix ix_list (pe_lst (pa_cons pe_str (pa_cons pe_str pa_nil))) (pe_op op_sub (pv 2) pe_int) (fun _ _ => rfl)) (pa_cons (pe_op op_mod (pv 4) pe_int) pa_nil))))) pss_nil)
      (pss_cons (ps_if (pt_cmpR op_lt (pv 2) pe_int (nomark _)) (pss_one (ps_ret (pe_tup (pa_cons (pe_ix ix_list (pe_lst (pa_cons pe_str (pa_cons pe_str (pa_cons pe_str pa_nil)))) (pe_op op_sub (pv 2) pe_int) (fun _ _ => rfl)) (pa_cons (pv 3) (pa_cons (pe_op op_mod (pv 4) pe_int) pa_nil)))))) pss_nil)
      (pss_cons (ps_if (pt_cmpR op_lt (pv 2) pe_int (nomark _)) (pss_one (ps_ret (pe_tup (pa_cons (pe_ix ix_list (pe_lst (pa_cons pe_str (pa_cons pe_str pa_nil))) (pe_op op_sub (pv 2) pe_int) (fun _ _ => rfl)) (pa_cons (pe_op op_mod (pv 4) (pv 1)) pa_nil))))) pss_nil)
      (pss_cons (ps_if (pt_cmpR op_eq (pv 2) pe_int (nomark _)) (pss_one (ps_ret (pe_tup (pa_cons pe_str (pa_cons (pv 3) (pa_cons (pe_op op_mod (pv 4) (pv 1)) pa_nil)))))) pss_nil)
      (pss_one (ps_ret (pe_tup (pa_cons (pe_ix ix_list (pe_lst (pa_cons pe_str (pa_cons pe_str pa_nil))) (pe_op op_sub (pv 2) pe_int) (fun _ _ => rfl)) (pa_cons (pe_ix ix_list (pe_lst (pa_cons (pv 3) (pa_cons pe_int pa_nil))) (pe_op op_mul (pe_op op_mod (pv 4) pe_int) (pe_op op_sub pe_int (pv 2))) (fun _ _ => rfl)) pa_nil)))))))))))), ?_⟩
    refine seq_join (t := tAsg _ _) (fun σ H2 => H = H2 ∧ ∃ kk : Nat, kk < 13 ∧ σ = [some (.int z), some (vi many), some (vi kk), none, none]) (fun σ H2 ⟨eH, kk, hk, eσ⟩ => ?_) (fun N rest => ?_)
    rotate_left
    · obtain ⟨n, hn, hlt⟩ := modN z (m := 13) (by decide)
      exact ⟨_, rfl, _, _, rfl, rfl, (by show (0 : Int) < 13; decide), rest _ _ ⟨rfl, n, hlt, congrArg (fun i => [some (V.int z), some (vi many), some (V.int i), none, none]) hn⟩⟩
    subst eH eσ
    refine seq_join (t := tAsg _ _) (fun σ H2 => H = H2 ∧ ∃ b : Nat, b < 8 ∧ σ = [some (.int z), some (vi many), some (vi kk), some (vi b), none]) (fun σ H2 ⟨eH, b, hb, eσ⟩ => ?_) (fun N rest => ?_)
    rotate_left
    · obtain ⟨n, hn, hlt⟩ := modN (z.fdiv 13) (m := 8) (by decide)
      exact ⟨_, rfl, _, _, rfl, rfl, ⟨by decide, by decide⟩, _, _, rfl, rfl, (by show (0 : Int) < 8; decide), rest _ _ ⟨rfl, n, hlt, congrArg (fun i => [some (V.int z), some (vi many), some (vi kk), some (V.int i), none]) hn⟩⟩
    subst eH eσ
    refine seq_join (t := tAsg _ _) (fun σ H2 => H = H2 ∧ ∃ pt : Int, σ = [some (.int z), some (vi many), some (vi kk), some (vi b), some (.int pt)]) (fun σ H2 ⟨eH, pt, eσ⟩ => ?_) (fun N rest => ?_)
    rotate_left
    · exact ⟨_, rfl, _, _, rfl, rfl, ⟨by decide, by decide⟩, rest _ _ ⟨rfl, _, rfl⟩⟩
    subst eH eσ
    obtain ⟨n1, hn1, hl1⟩ := modN pt (m := 4294967296) (by decide)
    obtain ⟨n2, hn2, hl2⟩ := modN pt (m := 8) (by decide)
    obtain ⟨n3, hn3, hl3⟩ := modN (pt.fdiv 8) (m := 8) (by decide)
    obtain ⟨n4, hn4, hl4⟩ := modN pt (m := 5) (by decide)
    obtain ⟨n5, hn5, hl5⟩ := modN pt (m := many) h0
    obtain ⟨n6, hn6, hl6⟩ := modN pt (m := 2) (by decide)
    refine ⟨_, rfl, _, _, rfl, rfl, _, rfl, ?_⟩
    by_cases c3 : kk < 3
    · rw [decide_eq_true (show (kk : Int) < 3 by omega)]
      refine iteT ⟨_, rfl, _, rfl, _, _, rfl, rfl, (by show (0 : Int) < 4294967296; decide), (by show 3 ≤ sizeLine; decide), fun p1 hp1 => ?_⟩
      refine ⟨_, rfl, _, rfl, _, _, rfl, rfl, (by show (0 : Int) < 8; decide), (by show 3 ≤ sizeLine; decide), fun p2 hp2 => ?_⟩
      refine ⟨_, rfl, _, rfl, _, _, rfl, rfl, (by show (0 : Int) < 8; decide), _, rfl, _, _, rfl, rfl, ⟨by decide, by decide⟩, _, _, rfl, rfl, (by show (0 : Int) < 8; decide), (by show 4 ≤ sizeLine; decide), fun p3 hp3 => ?_⟩
      refine ⟨(by show 3 ≤ sizeLine; decide), fun l hl => ?_⟩
      have s1 := Same.new (o := .tup [.str "set", vi b, .int (pt % 4294967296)]) hp1
      have s2 := Same.new (o := .tup [.str "copy", vi b, .int (pt % 8)]) hp2
      have s3 := Same.new (o := .tup [.str "add", vi b, .int (pt % 8), .int (pt.fdiv 8 % 8)]) hp3
      have s4 := Same.new (o := .lst [.ref p1, .ref p2, .ref p3]) hl
      have t1 : TellV K false _ (.ref p1) (.set b n1) := (Same.kp (Same.trans s2 (Same.trans s3 s4))).tell (tell_new (congrArg (fun i => [V.str "set", vi b, V.int i]) hn1))
      have t2 : TellV K false _ (.ref p2) (.copy b n2) := (Same.kp (Same.trans s3 s4)).tell (tell_new (congrArg (fun i => [V.str "copy", vi b, V.int i]) hn2))
      have t3 : TellV K false _ (.ref p3) (.add b n2 n3) := (Same.kp s4).tell (tell_new (by
        show [V.str "add", vi b, V.int (pt % 8), V.int (pt.fdiv 8 % 8)] = _
        rw [show pt % 8 = (n2 : Int) from hn2, show pt.fdiv 8 % 8 = (n3 : Int) from hn3]
        rfl))
      have sA := Same.trans s1 (Same.trans s2 (Same.trans s3 s4))
      match kk, c3 with
      | 0, _ => exact ⟨_, rfl, l, _, _, .ref p1, rfl, rfl, SqL.of upd_same, rfl, k _ _ (.set b n1) sA t1 ⟨by omega, by omega⟩⟩
      | 1, _ => exact ⟨_, rfl, l, _, _, .ref p2, rfl, rfl, SqL.of upd_same, rfl, k _ _ (.copy b n2) sA t2 ⟨by omega, by omega⟩⟩
      | 2, _ => exact ⟨_, rfl, l, _, _, .ref p3, rfl, rfl, SqL.of upd_same, rfl, k _ _ (.add b n2 n3) sA t3 ⟨by omega, by omega, by omega⟩⟩
    · rw [decide_eq_false (show ¬ (kk : Int) < 3 by omega)]
      refine iteF ⟨_, rfl, _, _, rfl, rfl, _, rfl, ?_⟩
      by_cases c5 : kk < 5
      · rw [decide_eq_true (show (kk : Int) < 5 by omega)]
        refine iteT ⟨(by show 2 ≤ sizeLine; decide), fun l hl => ?_⟩
        have s1 := Same.new (o := .lst [.str "grow", .str "shrink"]) hl
        refine ⟨_, rfl, _, _, rfl, rfl, l, [.str "grow", .str "shrink"], (kk : Int) - 3, ?_⟩
        rcases (show kk = 3 ∨ kk = 4 by omega) with rfl | rfl
        · exact ⟨.str "grow", rfl, rfl, SqL.of upd_same, rfl, _, rfl, _, _, rfl, rfl, (by show (0 : Int) < 5; decide), (by show 2 ≤ sizeLine; decide), fun p hp => k _ _ (.grow n4) (Same.trans s1 (Same.new hp)) (tell_new (congrArg (fun i => [V.str "grow", V.int i]) hn4)) (by show n4 ≤ 5; omega)⟩
        · exact ⟨.str "shrink", rfl, rfl, SqL.of upd_same, rfl, _, rfl, _, _, rfl, rfl, (by show (0 : Int) < 5; decide), (by show 2 ≤ sizeLine; decide), fun p hp => k _ _ (.shrink n4) (Same.trans s1 (Same.new hp)) (tell_new (congrArg (fun i => [V.str "shrink", V.int i]) hn4)) (by show n4 ≤ 5; omega)⟩
      · rw [decide_eq_false (show ¬ (kk : Int) < 5 by omega)]
        refine iteF ⟨_, rfl, _, _, rfl, rfl, _, rfl, ?_⟩
        by_cases c8 : kk < 8
        · rw [decide_eq_true (show (kk : Int) < 8 by omega)]
          refine iteT ⟨(by show 3 ≤ sizeLine; decide), fun l hl => ?_⟩
          have s1 := Same.new (o := .lst [.str "put", .str "get", .str "put"]) hl
          refine ⟨_, rfl, _, _, rfl, rfl, l, [.str "put", .str "get", .str "put"], (kk : Int) - 5, ?_⟩
          rcases (show kk = 5 ∨ kk = 6 ∨ kk = 7 by omega) with rfl | rfl | rfl
          · exact ⟨.str "put", rfl, rfl, SqL.of upd_same, rfl, _, rfl, _, rfl, _, _, rfl, rfl, (by show (0 : Int) < 5; decide), (by show 3 ≤ sizeLine; decide), fun p hp => k _ _ (.put b n4) (Same.trans s1 (Same.new hp)) (tell_new (congrArg (fun i => [V.str "put", vi b, V.int i]) hn4)) ⟨by omega, by omega⟩⟩
          · exact ⟨.str "get", rfl, rfl, SqL.of upd_same, rfl, _, rfl, _, rfl, _, _, rfl, rfl, (by show (0 : Int) < 5; decide), (by show 3 ≤ sizeLine; decide), fun p hp => k _ _ (.get b n4) (Same.trans s1 (Same.new hp)) (tell_new (congrArg (fun i => [V.str "get", vi b, V.int i]) hn4)) ⟨by omega, by omega⟩⟩
          · exact ⟨.str "put", rfl, rfl, SqL.of upd_same, rfl, _, rfl, _, rfl, _, _, rfl, rfl, (by show (0 : Int) < 5; decide), (by show 3 ≤ sizeLine; decide), fun p hp => k _ _ (.put b n4) (Same.trans s1 (Same.new hp)) (tell_new (congrArg (fun i => [V.str "put", vi b, V.int i]) hn4)) ⟨by omega, by omega⟩⟩
        · rw [decide_eq_false (show ¬ (kk : Int) < 8 by omega)]
          refine iteF ⟨_, rfl, _, _, rfl, rfl, _, rfl, ?_⟩
          by_cases c10 : kk < 10
          · rw [decide_eq_true (show (kk : Int) < 10 by omega)]
            refine iteT ⟨(by show 2 ≤ sizeLine; decide), fun l hl => ?_⟩
            have s1 := Same.new (o := .lst [.str "jump", .str "call"]) hl
            refine ⟨_, rfl, _, _, rfl, rfl, l, [.str "jump", .str "call"], (kk : Int) - 8, ?_⟩
            rcases (show kk = 8 ∨ kk = 9 by omega) with rfl | rfl
            · exact ⟨.str "jump", rfl, rfl, SqL.of upd_same, rfl, _, rfl, _, rfl, _, _, rfl, rfl, (by show (0 : Int) < (many : Int); omega), (by show 2 ≤ sizeLine; decide), fun p hp => k _ _ (.jump n5) (Same.trans s1 (Same.new hp)) (tell_new (congrArg (fun i => [V.str "jump", V.int i]) hn5)) (by show n5 ≤ 2000; omega)⟩
            · exact ⟨.str "call", rfl, rfl, SqL.of upd_same, rfl, _, rfl, _, rfl, _, _, rfl, rfl, (by show (0 : Int) < (many : Int); omega), (by show 2 ≤ sizeLine; decide), fun p hp => k _ _ (.call n5) (Same.trans s1 (Same.new hp)) (tell_new (congrArg (fun i => [V.str "call", V.int i]) hn5)) (by show n5 ≤ 2000; omega)⟩
          · rw [decide_eq_false (show ¬ (kk : Int) < 10 by omega)]
            refine iteF ⟨_, rfl, rfl, _, rfl, ?_⟩
            have e10 : decide (vi kk = V.int 10) = decide (kk = 10) := decide_eq_decide.mpr ⟨fun z => by have := V.int.inj z; omega, fun z => by rw [z]; rfl⟩
            rw [e10]
            by_cases cx : kk = 10
            · rw [decide_eq_true cx]
              exact iteT ⟨_, rfl, _, rfl, _, rfl, _, _, rfl, rfl, (by show (0 : Int) < (many : Int); omega), (by show 3 ≤ sizeLine; decide), fun p hp => k _ _ (.branch b n5) (Same.new hp) (tell_new (congrArg (fun i => [V.str "branch", vi b, V.int i]) hn5)) ⟨by omega, by omega⟩⟩
            · rw [decide_eq_false cx]
              refine iteF ⟨(by show 2 ≤ sizeLine; decide), fun l hl => ?_⟩
              have s1 := Same.new (o := .lst [.str "back", .str "drop"]) hl
              refine ⟨_, rfl, _, _, rfl, rfl, l, [.str "back", .str "drop"], (kk : Int) - 11, ?_⟩
              rcases (show kk = 11 ∨ kk = 12 by omega) with rfl | rfl
              · refine ⟨.str "back", rfl, rfl, SqL.of upd_same, rfl, _, rfl, (by show 2 ≤ sizeLine; decide), fun l2 hl2 => ?_⟩
                have s2 := Same.new (o := .lst [vi b, .int 7]) hl2
                refine ⟨_, rfl, _, _, rfl, rfl, (by show (0 : Int) < 2; decide), _, rfl, _, _, rfl, rfl, _, _, rfl, rfl, .inl ⟨?_, ?_⟩, l2, [vi b, .int 7], pt % 2 * (12 - ((11 : Nat) : Int)), ?_⟩
                · show (-(2 ^ 64 : Int)) < pt % 2
                  omega
                · show pt % 2 < (2 ^ 64 : Int)
                  omega
                match n6, hl6 with
                | 0, _ =>
                  refine ⟨vi b, rfl, rfl, SqL.of upd_same, at_nat (j := 0) ?_ rfl, (by show 2 ≤ sizeLine; decide), fun p hp => k _ _ (.back b) (Same.trans s1 (Same.trans s2 (Same.new hp))) (tell_new rfl) (by show b ≤ 7; omega)⟩
                  show pt % 2 * (12 - 11) = 0
                  omega
                | 1, _ =>
                  refine ⟨.int 7, rfl, rfl, SqL.of upd_same, at_nat (j := 1) ?_ rfl, (by show 2 ≤ sizeLine; decide), fun p hp => k _ _ (.back 7) (Same.trans s1 (Same.trans s2 (Same.new hp))) (tell_new rfl) (by show 7 ≤ 7; omega)⟩
                  show pt % 2 * (12 - 11) = 1
                  omega
              · refine ⟨.str "drop", rfl, rfl, SqL.of upd_same, rfl, _, rfl, (by show 2 ≤ sizeLine; decide), fun l2 hl2 => ?_⟩
                have s2 := Same.new (o := .lst [vi b, .int 7]) hl2
                refine ⟨_, rfl, _, _, rfl, rfl, (by show (0 : Int) < 2; decide), _, rfl, _, _, rfl, rfl, _, _, rfl, rfl, .inl ⟨?_, ?_⟩, l2, [vi b, .int 7], pt % 2 * (12 - ((12 : Nat) : Int)), ?_⟩
                · show (-(2 ^ 64 : Int)) < pt % 2
                  omega
                · show pt % 2 < (2 ^ 64 : Int)
                  omega
                refine ⟨vi b, rfl, rfl, SqL.of upd_same, at_nat (j := 0) ?_ rfl, (by show 2 ≤ sizeLine; decide), fun p hp => k _ _ (.drop b) (Same.trans s1 (Same.trans s2 (Same.new hp))) (tell_new rfl) (by show b ≤ 7; omega)⟩
                show pt % 2 * (12 - 12) = 0
                omega
end
end Fb

set_option Elab.async false
set_option linter.all false
set_option maxRecDepth 100000
set_option maxHeartbeats 4000000
namespace Fb
open PySem PySem.Spec PyProof.Rows L2
open He (ga ma)
/-! ### landings that are put -/
def putL (ls : List (Nat × Nat)) (i j : Nat) : List (Nat × Nat) := if (ls.any fun q => decide (q.1 = i)) = true then ls.map (fun q => if q.1 = i then (q.1, j) else q) else ls ++ [(i, j)]
theorem putL_length (ls : List (Nat × Nat)) (i j : Nat) : (putL ls i j).length ≤ ls.length + 1 := by
  unfold putL
  split
  · rw [List.length_map]
    omega
  · simp
theorem putK_ls (ls : List (Nat × Nat)) (i j : Nat) : putK (lsV ls) (Sum.inl (i : Int)) (vi j) = lsV (putL ls i j) := by
  unfold putK putL
  have ek : ∀ q : Nat × Nat, decide ((Sum.inl (q.1 : Int) : Key) = Sum.inl (i : Int)) = decide (q.1 = i) := fun q => decide_eq_decide.mpr ⟨fun e => by have := Sum.inl.inj e; omega, fun e => by rw [e]⟩
  have e1 : ((lsV ls).any fun kv => decide (kv.1 = Sum.inl (i : Int))) = ls.any fun q => decide (q.1 = i) := by
    unfold lsV
    rw [List.any_map]
    congr 1
    funext q
    exact ek q
  rw [e1]
  by_cases h : (ls.any fun q => decide (q.1 = i)) = true
  · rw [if_pos h, if_pos h]
    unfold lsV
    rw [List.map_map, List.map_map]
    apply List.map_congr_left
    intro q _
    show (if (Sum.inl (q.1 : Int) : Key) = Sum.inl (i : Int) then ((Sum.inl (q.1 : Int) : Key), vi j) else (Sum.inl (q.1 : Int), vi q.2)) = _
    by_cases e : q.1 = i
    · have e2 : (Sum.inl (q.1 : Int) : Key) = Sum.inl (i : Int) := by rw [e]
      rw [if_pos e2]
      show _ = (Sum.inl (((if q.1 = i then (q.1, j) else q).1 : Nat) : Int), vi (if q.1 = i then (q.1, j) else q).2)
      rw [if_pos e]
    · have e2 : ¬ (Sum.inl (q.1 : Int) : Key) = Sum.inl (i : Int) := fun z => e (by have := Sum.inl.inj z; omega)
      rw [if_neg e2]
      show _ = (Sum.inl (((if q.1 = i then (q.1, j) else q).1 : Nat) : Int), vi (if q.1 = i then (q.1, j) else q).2)
      rw [if_neg e]
  · rw [if_neg h, if_neg h]
    unfold lsV
    rw [List.map_append]
    rfl
theorem mem_cutV {xs : List V} {lo hi : Option Int} {x : V} (h : x ∈ cutV xs lo hi) : x ∈ xs := by
  unfold cutV at h
  exact List.mem_of_mem_drop (List.mem_of_mem_take h)
section
variable {P : Program} {w : World} {K : PySem.W.Frag} {mg : Str → Option Value} {base : Heap}
def spCode (K : PySem.W.Frag) : Sp := fun vs H Q _ => ∃ (a : Addr) (zs : List Int), vs = [.ref a] ∧ SqL K H a (zs.map V.int) ∧ zs.length ≤ 63 ∧
  ∀ H' t p d xs rs ls, Same H H' → H' t = some (.tup [.ref p, .ref d]) → H' p = some (.lst xs) → Al (TellV K false H') xs rs → (∀ r ∈ rs, r.ok) → rs.length ≤ 100 → H' d = some (.dK (lsV ls)) → ls.length < 64 → Q (.ref t) H'
theorem Same.seqL {K : PySem.W.Frag} {H H' : Hp} {a : Addr} {xs : List V} (e : Same H H') (h : SqL K H a xs) : SqL K H' a xs := by
  rcases h with (h | ⟨o, h⟩) | h
  · exact .inl (.inl (e _ _ h))
  · exact .inl (.inr ⟨o, e _ _ h⟩)
  · exact .inr h
theorem r_any_code (T : Tx K mg) : FnR P w K mg base CX0 2 (ga K "_law_any_code") (spCode K) := by
  refine fnr0 T.F_law_any_code sc_law_any_code (fun vs H Q E h => ?_) hb_law_any_code (fun cdv A outer s H vs Q E hr h => ?_)
  · obtain ⟨a, zs, rfl, _⟩ := h
    rfl
  · obtain ⟨a, zs, rfl, hs, hz, k⟩ := h
    have hu := hu_of hr
    refine ⟨_, pss_cons (ps_set (i := 1) sc_law_any_code.nd rfl (.inr rfl) (pe_op op_add pe_int (pe_op op_mod (pe_op op_fdivN (pe_f (r_cell_at T) hr rfl T.gl_law_cell_at T.kp_law_cell_at pass0 (pa_cons (pv 0) (pa_cons pe_int pa_nil))) pe_int) pe_int)))
      (pss_cons (ps_setLc (i := 2) (own := [("_law_k", 5)]) (g := gName 5) (tt := tYes) rfl sc_law_any_code.nd rfl rfl (sw_true rfl rfl rfl (by decide +kernel)) (pi_range1 rfl T.fr_range (pa_cons (pv 1) pa_nil)) (blkOk_by (N := N_law_any_code) (sc := defScope s_law_any_code) (by decide +kernel)) (fun _ _ _ _ _ => pg_name (i := 5) sc_law_any_code.nd rfl (.inl rfl)) (fun _ _ _ _ _ => pts_nil)
          (fun _ _ _ _ _ => pe_f (r_any_row T) hr rfl T.gl_law_any_row T.kp_law_any_row pass0 (pa_cons (pe_f (r_cell_at T) hr rfl T.gl_law_cell_at T.kp_law_cell_at pass0 (pa_cons (pv 0) (pa_cons (pe_op op_add pe_int (pv 5)) pa_nil))) (pa_cons (pv 1) pa_nil))))
      (pss_cons (ps_set (i := 3) sc_law_any_code.nd rfl (.inl rfl) pe_dnewK)
      (pss_cons (ps_for PassesOwn.never rfl (pi_list (pe_slice sl_list (pv 0) (po_some pe_int) (po_some (pe_op op_add pe_int (pe_op op_mod (pe_op op_fdivN (pe_f (r_cell_at T) hr rfl T.gl_law_cell_at T.kp_law_cell_at pass0 (pa_cons (pv 0) (pa_cons pe_int pa_nil))) pe_int) pe_int))))) (pg_name (i := 4) sc_law_any_code.nd rfl (.inl rfl))
        (pss_one (ps_dput hu (pv 3) (pe_op op_mod (pv 4) (pv 1)) (pe_op op_mod (pe_op op_fdivN (pv 4) (pv 1)) (pv 1)) rfl)))
      (pss_one (ps_ret (pe_tup (pa_cons (pv 2) (pa_cons (pv 3) pa_nil)))))))), ?_⟩
    refine seq_join (t := tAsg _ _) (fun σ H2 => H = H2 ∧ ∃ many : Nat, 0 < many ∧ many ≤ 12 ∧ σ = [some (.ref a), some (vi many), none, none, none, none]) (fun σ H2 ⟨eH, many, h0, h12, eσ⟩ => ?_) (fun N rest => ?_)
    rotate_left
    · refine ⟨_, rfl, a, zs, 0, rfl, by omega, hs, fun z => ?_⟩
      obtain ⟨n, hn, hlt⟩ := modN (z.fdiv 2) (m := 12) (by decide)
      refine ⟨_, _, rfl, rfl, ⟨by decide, by decide⟩, _, _, rfl, rfl, (by show (0 : Int) < 12; decide), _, _, rfl, rfl, rest _ _ ⟨rfl, 1 + n, by omega, by omega, ?_⟩⟩
      show [_, some (V.int (1 + z.fdiv 2 % 12)), _, _, _, _] = _
      rw [show (1 + z.fdiv 2 % 12 : Int) = ((1 + n : Nat) : Int) by have : z.fdiv 2 % 12 = (n : Int) := hn; omega]
      rfl
    subst eH eσ
    refine ⟨_, rfl, (many : Int), rfl, by omega, by omega, fun D hD => ?_⟩
    refine lc_range (lo := 0) (n := many) (fun i H' => ∃ xs rs, Same H H' ∧ H' D = some (.lst xs) ∧ Al (TellV K false H') xs rs ∧ (∀ r ∈ rs, r.ok) ∧ rs.length ≤ i) ⟨[], [], Same.new hD, upd_same, .nil, (fun r hr => by cases hr), Nat.le_refl _⟩ (fun i H' hi ⟨xs, rs, sm, hDl, hal, hok, hrl⟩ => ?_) (fun H' ⟨xs, rs, sm, hDl, hal, hok, hrl⟩ => ?_)
    · refine ⟨rfl, _, rfl, _, rfl, _, _, rfl, rfl, a, zs, _, rfl, (by show (0 : Int) ≤ 12 + (0 + (i : Int)); omega), Same.seqL sm hs, fun z => ⟨_, rfl, z, many, rfl, h0, h12, fun H2 v r s2 hv hvok => ?_⟩⟩
      refine ⟨_, s2 _ _ hDl, lt_size (by rw [hal.1]; omega), xs ++ [v], rs ++ [r], Same.mut (Same.trans sm s2) hD, upd_same, ?_, ?_, by simp; omega⟩
      · exact ((hal.imp fun _ _ => (Same.kp s2).tell).push hv).imp fun _ _ => tell_updL (s2 _ _ hDl)
      · intro q hq
        rcases List.mem_append.mp hq with hq | hq
        · exact hok q hq
        · rw [List.mem_singleton.mp hq]
          exact hvok
    · refine fun d hd => ?_
      have s2 := Same.new (o := .dK []) hd
      refine ⟨_, rfl, _, rfl, _, rfl, a, zs, 0, rfl, by omega, Same.seqL (Same.trans sm s2) hs, fun z => ?_⟩
      refine ⟨_, _, rfl, rfl, ⟨by decide, by decide⟩, _, _, rfl, rfl, (by show (0 : Int) < 3; decide), _, _, rfl, rfl, _, rfl, a, _, rfl, Same.seqL (Same.trans sm s2) hs, fun l hl => ?_⟩
      have s3 := Same.new (o := .lst (cutV (zs.map V.int) (some 30) (some (30 + z.fdiv 24 % 3)))) hl
      have hd0 : H' d = none := hd
      have ndl : d ≠ l := ne_of_none upd_same hl
      refine ⟨l, rfl, ⟨_, SqL.of upd_same⟩, ?_⟩
      have hLl := cutV_length (zs.map V.int) (some 30) (some (30 + z.fdiv 24 % 3))
      rw [List.length_map] at hLl
      refine for_list (K := K) (a := l) (xs := cutV (zs.map V.int) (some 30) (some (30 + z.fdiv 24 % 3))) (fun n σ H2 => ∃ (ls : List (Nat × Nat)) (s4 : Option V), σ = [some (.ref a), some (vi many), some (.ref D), some (.ref d), s4, none] ∧ Same H' H2 ∧ H2 d = some (.dK (lsV ls)) ∧ ls.length ≤ n ∧ H2 l = some (.lst (cutV (zs.map V.int) (some 30) (some (30 + z.fdiv 24 % 3)))))
        ⟨[], none, rfl, Same.trans s2 s3, s3 _ _ upd_same, Nat.le_refl _, upd_same⟩ (fun n σ H2 _ ⟨_, _, _, _, _, _, h⟩ => SqL.of h) (fun n x σ H2 hxn ⟨ls, s4, eσ, sm2, hd2, hll, hl2⟩ => ?_) (fun σ H2 ⟨ls, s4, eσ, sm2, hd2, hll, hl2⟩ => ?_)
      · subst eσ
        obtain ⟨y, _, rfl⟩ := List.mem_map.mp (mem_cutV (List.mem_of_getElem? hxn))
        have hn := (List.getElem?_eq_some_iff.mp hxn).1
        obtain ⟨i, hi, hil⟩ := modN y (m := many) h0
        obtain ⟨j, hj, hjl⟩ := modN (y.fdiv many) (m := many) h0
        refine ⟨_, rfl, _, rfl, _, _, rfl, rfl, ⟨by show (many : Int) ≠ 0; omega, by show (many : Int).natAbs < 1073741824; omega⟩, _, rfl, _, _, rfl, rfl, (by show (0 : Int) < (many : Int); omega), _, rfl, _, rfl, _, rfl, _, _, rfl, rfl, (by show (0 : Int) < (many : Int); omega), d, _, rfl, DPut.k (k := Sum.inl (y % (many : Int))) hd2 (lt_size (by show (lsV ls).length ≤ 100000; unfold lsV; rw [List.length_map]; omega)), ?_⟩
        have e : putK (lsV ls) (Sum.inl (y % (many : Int))) (V.int (y.fdiv (many : Int) % (many : Int))) = lsV (putL ls i j) := by
          rw [hi, hj]
          exact putK_ls ls i j
        refine ⟨putL ls i j, _, rfl, Same.mut sm2 hd0, ?_, by have := putL_length ls i j; omega, ?_⟩
        · rw [upd_same]
          exact congrArg (fun q => some (HO.dK q)) e
        · rw [upd_ne (Ne.symm ndl)]
          exact hl2
      · subst eσ
        refine ⟨_, rfl, _, rfl, (by show 2 ≤ sizeLine; decide), fun t ht => ?_⟩
        have s5 := Same.new (o := .tup [.ref D, .ref d]) ht
        have sE := Same.trans sm2 s5
        exact k _ t D d xs rs ls (Same.trans sm sE) upd_same (sE _ _ hDl) (hal.imp fun _ _ => (Same.kp sE).tell) hok (by omega) (s5 _ _ hd2) (by omega)
end
end Fb

set_option Elab.async false
set_option linter.all false
set_option maxRecDepth 100000
set_option maxHeartbeats 4000000
namespace Fb
open PySem PySem.Spec PyProof.Rows L2
open He (ga ma)
/-- the else of an if: what it is read from -/
theorem if_else {t : TT} {A B : TS} {D : Ends} {σ : L2.St} {H : Hp} (S : Hp → Prop) (hB : ∀ H, S H → B D σ H) (h : ∀ NB : TS, (∀ H, S H → NB D σ H) → tIfS t A NB D σ H) : tIfS t A B D σ H := h B hB
/-- rows that are being told, in the list at p -/
structure Bd (K : PySem.W.Frag) (neg : Bool) (H0 : Hp) (p : Addr) (H : Hp) (xs : List V) (rs : List RowD) : Prop where
  new : H0 p = none
  same : Same H0 H
  at_ : H p = some (.lst xs)
  al : Al (TellV K neg H) xs rs
  ok : ∀ r ∈ rs, r.ok
theorem Bd.step {K : PySem.W.Frag} {neg : Bool} {H0 H H' : Hp} {p : Addr} {xs : List V} {rs : List RowD} (B : Bd K neg H0 p H xs rs) (s : Same H H') : Bd K neg H0 p H' xs rs := ⟨B.new, Same.trans B.same s, s _ _ B.at_, B.al.imp fun _ _ => (Same.kp s).tell, B.ok⟩
theorem Bd.push {K : PySem.W.Frag} {neg : Bool} {H0 H : Hp} {p : Addr} {xs : List V} {rs : List RowD} {v : V} {r : RowD} (B : Bd K neg H0 p H xs rs) (hv : TellV K neg H v r) (hok : r.ok) : Bd K neg H0 p (upd H p (.lst (xs ++ [v]))) (xs ++ [v]) (rs ++ [r]) :=
  ⟨B.new, Same.mut B.same B.new, upd_same, (B.al.push hv).imp fun _ _ => tell_updL B.at_, fun q hq => by
    rcases List.mem_append.mp hq with hq | hq
    · exact B.ok q hq
    · rw [List.mem_singleton.mp hq]
      exact hok⟩
section
variable {P : Program} {w : World} {K : PySem.W.Frag} {mg : Str → Option Value} {base : Heap}
def spBody (K : PySem.W.Frag) : Sp := fun vs H Q _ => ∃ (a sv : Addr) (spare : Int) (at_ : Nat) (zs : List Int) (saved : List Nat), vs = [.ref a, .ref sv, .int spare, vi at_] ∧ H a = some (.lst (zs.map V.int)) ∧ zs.length ≤ 5 ∧ H sv = some (.lst (ns saved)) ∧ (∀ s ∈ saved, s ≤ 7) ∧ saved.length ≤ 4 ∧ spare ≤ 5 ∧ at_ ≤ 500 ∧
  ∀ H' p xs rs, Bd K true H p H' xs rs → rs.length ≤ 2 * zs.length → Q (.ref p) H'
theorem r_law_body (T : Tx K mg) : FnR P w K mg base CX0 1 (ga K "_law_body") (spBody K) := by
  refine fnr0 T.F_law_body sc_law_body (fun vs H Q E h => ?_) hb_law_body (fun cdv A outer s H vs Q E hr h => ?_)
  · obtain ⟨a, sv, spare, at_, zs, saved, rfl, _⟩ := h
    rfl
  · obtain ⟨a, sv, spare, at_, zs, saved, rfl, ha, hz, hsv, h7, h4, hsp, hat, k⟩ := h
    have hu := Nat.lt_of_succ_lt (hu_of hr)
    refine ⟨_, pss_cons (ps_set (i := 4) sc_law_body.nd rfl (.inl rfl) (pe_lst pa_nil))
      (pss_cons (ps_for PassesOwn.never rfl (pi_list (pv 0)) (pg_name (i := 5) sc_law_body.nd rfl (.inl rfl))
        (pss_cons (ps_set (i := 6) sc_law_body.nd rfl (.inl rfl) (pe_op op_mod (pv 5) pe_int))
        (pss_cons (ps_set (i := 7) sc_law_body.nd rfl (.inl rfl) (pe_op op_mod (pe_op op_fdivN (pv 5) pe_int) pe_int))
        (pss_cons (ps_setLc (i := 8) (own := [("_law_one", 9)]) (g := gName 9) rfl sc_law_body.nd rfl rfl (sw_true rfl rfl rfl (by decide +kernel)) (pi_list (pv 1)) (blkOk_by (N := N_law_body) (sc := defScope s_law_body) (by decide +kernel)) (fun _ _ _ _ _ => pg_name (i := 9) sc_law_body.nd rfl (.inl rfl)) (fun _ _ _ _ _ => pts_one (pt_cmpR op_ne (pv 9) pe_int (nomark _))) (fun _ _ _ _ _ => pv 9))
        (pss_one (ps_if (PW.pt (pw_and (pt_cmpR op_eq (pv 6) pe_int (nomark _)) (pw_and1 (pt_cmpR (op_neNil hu) (pv 8) (pe_lst pa_nil) (nomark _)))))
          (pss_one (ps_expr (pe_bm PySem.F.plainAttrs_list PySem.F.slot_list_append PySem.F.type_list_append mt_append (pv 4) (pa_cons (pe_tup (pa_cons pe_str (pa_cons (pe_ix ix_list (pv 8) (pe_op op_mod (pe_op op_fdivN (pv 5) pe_int) (pe_callB call_len_seq rfl T.fr_len (by decide +kernel) (pa_cons (pv 8) pa_nil))) (fun _ _ => rfl)) (pa_cons (pe_op op_mod (pe_op op_fdivN (pv 5) pe_int) pe_int) pa_nil)))) pa_nil))))
          (pss_one (ps_if (PW.pt (pw_and (pt_cmpR op_in_seq (pv 6) (pe_lst (pa_cons pe_int (pa_cons pe_int pa_nil))) (by rfl)) (pw_and1 (pt_cmpR op_in_seq pe_int (pv 1) (by rfl)))))
            (pss_one (ps_expr (pe_bm PySem.F.plainAttrs_list PySem.F.slot_list_append PySem.F.type_list_append mt_append (pv 4) (pa_cons (pe_tup (pa_cons pe_str (pa_cons (pe_op op_sub (pe_un un_neg pe_int) (pe_op op_mod (pe_op op_fdivN (pv 5) pe_int) pe_int)) pa_nil))) pa_nil))))
            (pss_one (ps_if (PW.pt (pw_and (pt_cmpR op_eq (pv 6) pe_int (nomark _)) (pw_and1 (pt_cmpR op_ge (pv 2) pe_int (nomark _)))))
              (pss_one (ps_expr (pe_bm PySem.F.plainAttrs_list PySem.F.slot_list_append PySem.F.type_list_append mt_append (pv 4) (pa_cons (pe_ix ix_list (pe_lst (pa_cons (pe_tup (pa_cons pe_str (pa_cons (pv 7) (pa_cons (pv 2) pa_nil)))) (pa_cons (pe_tup (pa_cons pe_str (pa_cons (pv 7) (pa_cons (pv 2) pa_nil)))) pa_nil))) (pe_op op_mod (pe_op op_fdivN (pv 5) pe_int) pe_int) (fun _ _ => rfl)) pa_nil))))
              (pss_one (ps_if (pt_cmpR op_gt (pv 6) pe_int (nomark _))
                (pss_cons (ps_expr (pe_bm PySem.F.plainAttrs_list PySem.F.slot_list_append PySem.F.type_list_append mt_append (pv 4) (pa_cons (pe_tup (pa_cons pe_str (pa_cons (pv 7) (pa_cons (pe_op op_add (pe_op op_add (pv 3) (pe_callB call_len_seq rfl T.fr_len (by decide +kernel) (pa_cons (pv 4) pa_nil))) pe_int) pa_nil)))) pa_nil)))
                (pss_one (ps_expr (pe_bm PySem.F.plainAttrs_list PySem.F.slot_list_append PySem.F.type_list_append mt_append (pv 4) (pa_cons (pe_ix ix_list (pe_lst (pa_cons (pe_tup (pa_cons pe_str (pa_cons (pv 7) (pa_cons pe_int pa_nil)))) (pa_cons (pe_tup (pa_cons pe_str (pa_cons (pv 7) pa_nil))) pa_nil))) (pe_op op_sub (pv 6) pe_int) (fun _ _ => rfl)) pa_nil)))))
                (pss_one (ps_if (pt_cmpR op_eq (pv 6) pe_int (nomark _))
                  (pss_one (ps_expr (pe_bm PySem.F.plainAttrs_list PySem.F.slot_list_append PySem.F.type_list_append mt_append (pv 4) (pa_cons (pe_tup (pa_cons pe_str (pa_cons (pv 7) (pa_cons (pe_op op_mod (pe_op op_fdivN (pv 5) pe_int) pe_int) pa_nil)))) pa_nil))))
                  (pss_one (ps_expr (pe_bm PySem.F.plainAttrs_list PySem.F.slot_list_append PySem.F.type_list_append mt_append (pv 4) (pa_cons (pe_ix ix_list (pe_lst (pa_cons (pe_tup (pa_cons pe_str (pa_cons (pv 7) (pa_cons (pe_op op_mod (pe_op op_fdivN (pv 5) pe_int) pe_int) pa_nil)))) (pa_cons (pe_tup (pa_cons pe_str (pa_cons (pv 7) (pa_cons (pe_op op_mod (pe_op op_fdivN (pv 5) pe_int) pe_int) (pa_cons (pv 7) pa_nil))))) pa_nil))) (pe_op op_mod (pv 6) pe_int) (fun _ _ => rfl)) pa_nil))))))))))))))))))
      (pss_one (ps_ret (pv 4)))), ?_⟩
    refine ⟨(by show 0 ≤ sizeLine; decide), fun p hp => ?_⟩
    have B0 : Bd K true H p (upd H p (.lst [])) [] [] := ⟨hp, Same.new hp, upd_same, .nil, fun r hr => by cases hr⟩
    refine ⟨_, rfl, a, rfl, ⟨_, SqL.of (B0.same _ _ ha)⟩, ?_⟩
    refine for_list (K := K) (a := a) (xs := zs.map V.int) (fun n σ H' => ∃ (xs : List V) (rs : List RowD) (s5 s6 s7 s8 : Option V), σ = [some (.ref a), some (.ref sv), some (.int spare), some (vi at_), some (.ref p), s5, s6, s7, s8, none] ∧ Bd K true H p H' xs rs ∧ rs.length ≤ 2 * n) ⟨[], [], none, none, none, none, rfl, B0, Nat.le_refl _⟩ (fun n σ H' _ ⟨_, _, _, _, _, _, _, B, _⟩ => SqL.of (B.same _ _ ha)) (fun n x σ H' hxn ⟨xs, rs, s5, s6, s7, s8, eσ, B, hrl⟩ => ?_) (fun σ H' ⟨xs, rs, s5, s6, s7, s8, eσ, B, hrl⟩ => ?_)
    · subst eσ
      obtain ⟨y, _, rfl⟩ := List.mem_map.mp (List.mem_of_getElem? hxn)
      have hn : n < zs.length := by have := (List.getElem?_eq_some_iff.mp hxn).1; simpa using this
      refine seq_join (t := tAsg _ _) (fun σ H2 => H' = H2 ∧ ∃ kk : Nat, kk < 9 ∧ σ = [some (.ref a), some (.ref sv), some (.int spare), some (vi at_), some (.ref p), some (.int y), some (vi kk), s7, s8, none]) (fun σ H2 ⟨eH, kk, hkk, eσ⟩ => ?_) (fun N rest => ?_)
      rotate_left
      · obtain ⟨m, hm, hlt⟩ := modN y (m := 9) (by decide)
        exact ⟨_, rfl, _, _, rfl, rfl, (by show (0 : Int) < 9; decide), rest _ _ ⟨rfl, m, hlt, congrArg (fun i => [some (V.ref a), some (V.ref sv), some (V.int spare), some (vi at_), some (V.ref p), some (V.int y), some (V.int i), s7, s8, none]) hm⟩⟩
      subst eH eσ
      refine seq_join (t := tAsg _ _) (fun σ H2 => H' = H2 ∧ ∃ b : Nat, b < 4 ∧ σ = [some (.ref a), some (.ref sv), some (.int spare), some (vi at_), some (.ref p), some (.int y), some (vi kk), some (vi b), s8, none]) (fun σ H2 ⟨eH, b, hb, eσ⟩ => ?_) (fun N rest => ?_)
      rotate_left
      · obtain ⟨m, hm, hlt⟩ := modN (y.fdiv 9) (m := 4) (by decide)
        exact ⟨_, rfl, _, _, rfl, rfl, ⟨by decide, by decide⟩, _, _, rfl, rfl, (by show (0 : Int) < 4; decide), rest _ _ ⟨rfl, m, hlt, congrArg (fun i => [some (V.ref a), some (V.ref sv), some (V.int spare), some (vi at_), some (V.ref p), some (V.int y), some (vi kk), some (V.int i), s8, none]) hm⟩⟩
      subst eH eσ
      refine seq_join (t := tAsg _ _) (fun σ H2 => ∃ (q : Addr) (kept : List Nat), σ = [some (.ref a), some (.ref sv), some (.int spare), some (vi at_), some (.ref p), some (.int y), some (vi kk), some (vi b), some (.ref q), none] ∧ Bd K true H p H2 xs rs ∧ H2 q = some (.lst (ns kept)) ∧ ∀ s ∈ kept, s ≤ 7) (fun σ H2 ⟨q, kept, eσ, B2, hq, hk7⟩ => ?_) (fun N rest => ?_)
      rotate_left
      · refine ⟨_, rfl, sv, rfl, ⟨_, SqL.of (B.same _ _ hsv)⟩, fun D hD => ?_⟩
        refine lc_list (K := K) (a := sv) (xs := ns saved) (fun i H2 => ∃ kept : List Nat, Same H' H2 ∧ H2 D = some (.lst (ns kept)) ∧ kept.length ≤ i ∧ ∀ s ∈ kept, s ≤ 7) ⟨[], Same.new hD, upd_same, Nat.le_refl _, fun s hs => by cases hs⟩ (fun i H2 _ ⟨_, sm, _⟩ => SqL.of (sm _ _ (B.same _ _ hsv))) (fun i x H2 hxi ⟨kept, sm, hDl, hkl, hk⟩ => ?_) (fun H2 ⟨kept, sm, hDl, hkl, hk⟩ => ?_)
        · obtain ⟨s0, hs0, rfl⟩ := List.mem_map.mp (List.mem_of_getElem? hxi)
          have hi : i < saved.length := by have := (List.getElem?_eq_some_iff.mp hxi).1; simpa using this
          refine ⟨rfl, _, rfl, rfl, _, rfl, ?_⟩
          refine ite2 (fun c => ?_) (fun c => ⟨kept, sm, hDl, by omega, hk⟩)
          refine ⟨_, rfl, _, hDl, lt_size (by rw [List.length_map]; omega), kept ++ [s0], Same.mut sm hD, ?_, by simp; omega, fun s hs => ?_⟩
          · rw [upd_same]
            simp [ns]
          · rcases List.mem_append.mp hs with hs | hs
            · exact hk s hs
            · rw [List.mem_singleton.mp hs]
              exact h7 s0 hs0
        · exact rest _ _ ⟨D, kept, rfl, B.step sm, hDl, hk⟩
      subst eσ
      have hxl : xs.length ≤ 20 := by rw [B2.al.1]; omega
      have len1 : ∀ (r : RowD), (rs ++ [r]).length ≤ 2 * (n + 1) := fun r => by simp; omega
      refine if_else (fun H3 => Same H2 H3) (fun H3 s3 => ?_) (fun NB els => ?_)
      rotate_left
      · refine ⟨_, rfl, rfl, _, rfl, ?_⟩
        refine ite2 (fun c => ?_) (fun c => els _ Same.rfl)
        refine ⟨_, rfl, (by show 0 ≤ sizeLine; decide), fun ep hep => ?_⟩
        have s3 := Same.new (o := .lst []) hep
        refine ⟨q, ep, ns kept, rfl, rfl, SqL.of (s3 _ _ hq), SqL.of upd_same, _, rfl, ?_⟩
        rcases Nat.eq_zero_or_pos kept.length with hk0 | hk0
        · have : kept = [] := List.eq_nil_of_length_eq_zero hk0
          subst this
          exact iteF (els _ s3)
        · have : (ns kept).isEmpty = false := by cases kept with
            | nil => simp at hk0
            | cons _ _ => rfl
          rw [this]
          have B3 := B2.step s3
          have hq3 := s3 _ _ hq
          obtain ⟨m, hm, hml⟩ := modN (y.fdiv 36) (m := kept.length) hk0
          obtain ⟨u, hu2, hul⟩ := modN (y.fdiv 108) (m := 97) (by decide)
          have hkm : kept.getD m 0 ≤ 7 := by
            rw [List.getD_eq_getElem?_getD, List.getElem?_eq_getElem hml]
            exact hk7 _ (List.getElem_mem hml)
          refine iteT ⟨_, rfl, .inl ⟨rfl, _, SqL.of B3.at_⟩, _, rfl, _, rfl, _, _, rfl, rfl, ⟨by decide, by decide⟩, _, rfl, q, _, rfl, .inl (SqL.of hq3), _, _, rfl, rfl, ?_, q, ns kept, (y.fdiv 36) % ((ns kept).length : Int), vi (kept.getD m 0), rfl, rfl, SqL.of hq3, ?_, _, rfl, _, _, rfl, rfl, ⟨by decide, by decide⟩, _, _, rfl, rfl, (by show (0 : Int) < 97; decide), (by show 3 ≤ sizeLine; decide), fun yt hyt => ?_⟩
          · show (0 : Int) < ((ns kept).length : Int)
            rw [List.length_map]
            omega
          · rw [show (((ns kept).length : Nat) : Int) = (kept.length : Int) by rw [List.length_map], hm]
            exact atN hml
          have s4 := Same.new (o := .tup [.str "set", vi (kept.getD m 0), .int (y.fdiv 108 % 97)]) hyt
          have B4 := (B3.step s4).push (v := .ref yt) (r := .set (kept.getD m 0) u) (tell_new (congrArg (fun i => [V.str "set", vi (kept.getD m 0), V.int i]) hu2)) ⟨hkm, by omega⟩
          exact ⟨p, _, _, rfl, rfl, (B3.step s4).at_, lt_size (by omega), _, _, _, _, _, _, rfl, B4, len1 _⟩
      have B3 := B2.step s3
      refine if_else (fun H4 => Same H3 H4) (fun H4 s4 => ?_) (fun NB els => ?_)
      rotate_left
      · refine ⟨_, rfl, (by show 2 ≤ sizeLine; decide), fun ep hep => ?_⟩
        have s4 := Same.new (o := .lst [.int 4, .int 5]) hep
        refine ⟨ep, _, rfl, .inl (SqL.of upd_same), rfl, rfl, _, rfl, ?_⟩
        refine ite2 (fun c => ?_) (fun c => els _ s4)
        have B4 := B3.step s4
        refine ⟨_, rfl, sv, _, rfl, .inl (SqL.of (B4.same _ _ hsv)), rfl, flat_ns _, _, rfl, ?_⟩
        refine ite2 (fun c => ?_) (fun c => els _ s4)
        obtain ⟨u, hu2, hul⟩ := modN (y.fdiv 36) (m := 3) (by decide)
        refine ⟨_, rfl, .inl ⟨rfl, _, SqL.of B4.at_⟩, _, rfl, _, rfl, _, _, rfl, rfl, ⟨by decide, by decide⟩, _, _, rfl, rfl, (by show (0 : Int) < 3; decide), _, _, rfl, rfl, (by show 2 ≤ sizeLine; decide), fun yt hyt => ?_⟩
        have s5 := Same.new (o := .tup [.str "call", .int (-1 - y.fdiv 36 % 3)]) hyt
        have B5 := (B4.step s5).push (v := .ref yt) (r := .call u) (tell_new (congrArg (fun i => [V.str "call", V.int (-1 - i)]) hu2)) (by show u ≤ 2000; omega)
        exact ⟨p, _, _, rfl, rfl, (B4.step s5).at_, lt_size (by omega), _, _, _, _, _, _, rfl, B5, len1 _⟩
      have B4 := B3.step s4
      refine if_else (fun H5 => Same H4 H5) (fun H5 s5 => ?_) (fun NB els => ?_)
      rotate_left
      · refine ⟨_, rfl, rfl, _, rfl, ?_⟩
        refine ite2 (fun c => ?_) (fun c => els _ Same.rfl)
        refine ⟨_, rfl, _, _, rfl, rfl, _, rfl, ?_⟩
        refine ite2 (fun c2 => ?_) (fun c => els _ Same.rfl)
        have c2 := of_decide_eq_true c2
        obtain ⟨cs, rfl⟩ := Int.eq_ofNat_of_zero_le (show (0 : Int) ≤ spare from c2)
        obtain ⟨u, hu2, hul⟩ := modN (y.fdiv 36) (m := 2) (by decide)
        refine ⟨_, rfl, .inl ⟨rfl, _, SqL.of B4.at_⟩, _, rfl, _, rfl, (by show 3 ≤ sizeLine; decide), fun y1 hy1 => ?_⟩
        have t1 := Same.new (o := .tup [.str "put", vi b, vi cs]) hy1
        refine ⟨_, rfl, _, rfl, (by show 3 ≤ sizeLine; decide), fun y2 hy2 => ?_⟩
        have t2 := Same.new (o := .tup [.str "get", vi b, vi cs]) hy2
        refine ⟨(by show 2 ≤ sizeLine; decide), fun l hl => ?_⟩
        have t3 := Same.new (o := .lst [.ref y1, .ref y2]) hl
        have B5 := ((B4.step t1).step t2).step t3
        have w1 : TellV K true _ (.ref y1) (.put b cs) := (Same.kp (Same.trans t2 t3)).tell (tell_new rfl)
        have w2 : TellV K true _ (.ref y2) (.get b cs) := (Same.kp t3).tell (tell_new rfl)
        refine ⟨_, rfl, _, _, rfl, rfl, ⟨by decide, by decide⟩, _, _, rfl, rfl, (by show (0 : Int) < 2; decide), l, [.ref y1, .ref y2], (y.fdiv 36) % 2, ?_⟩
        match u, hul with
        | 0, _ => exact ⟨.ref y1, rfl, rfl, SqL.of upd_same, at_nat hu2 rfl, p, _, _, rfl, rfl, B5.at_, lt_size (by omega), _, _, _, _, _, _, rfl, B5.push w1 ⟨by omega, by omega⟩, len1 _⟩
        | 1, _ => exact ⟨.ref y2, rfl, rfl, SqL.of upd_same, at_nat hu2 rfl, p, _, _, rfl, rfl, B5.at_, lt_size (by omega), _, _, _, _, _, _, rfl, B5.push w2 ⟨by omega, by omega⟩, len1 _⟩
      have B5 := B4.step s5
      refine ⟨_, rfl, _, _, rfl, rfl, _, rfl, ?_⟩
      refine ite2 (fun c => ?_) (fun c => ?_)
      · have c := of_decide_eq_true c
        have hkk2 : kk = 7 ∨ kk = 8 := by omega
        refine ⟨_, rfl, .inl ⟨rfl, _, SqL.of B5.at_⟩, _, rfl, _, rfl, _, rfl, p, xs, rfl, .inl (SqL.of B5.at_), _, _, rfl, rfl, _, _, rfl, rfl, (by show 3 ≤ sizeLine; decide), fun y1 hy1 => ?_⟩
        have t1 := Same.new (o := .tup [.str "branch", vi b, .int ((at_ : Int) + (xs.length : Int) + 2)]) hy1
        have w1 : TellV K true _ (.ref y1) (.branch b (at_ + xs.length + 2)) := tell_new (H := H5) (p := y1) (xs := [.str "branch", vi b, .int ((at_ : Int) + (xs.length : Int) + 2)]) rfl
        have B6 := (B5.step t1).push w1 ⟨by omega, by omega⟩
        refine ⟨p, _, _, rfl, rfl, (B5.step t1).at_, lt_size (by omega), ?_⟩
        refine ⟨_, rfl, .inl ⟨rfl, _, SqL.of B6.at_⟩, _, rfl, (by show 3 ≤ sizeLine; decide), fun y2 hy2 => ?_⟩
        have t2 := Same.new (o := .tup [.str "set", vi b, .int 3]) hy2
        refine ⟨_, rfl, (by show 2 ≤ sizeLine; decide), fun y3 hy3 => ?_⟩
        have t3 := Same.new (o := .tup [.str "drop", vi b]) hy3
        refine ⟨(by show 2 ≤ sizeLine; decide), fun l hl => ?_⟩
        have t4 := Same.new (o := .lst [.ref y2, .ref y3]) hl
        have B7 := ((B6.step t2).step t3).step t4
        have w2 : TellV K true _ (.ref y2) (.set b 3) := (Same.kp (Same.trans t3 t4)).tell (tell_new rfl)
        have w3 : TellV K true _ (.ref y3) (.drop b) := (Same.kp t4).tell (tell_new rfl)
        refine ⟨_, rfl, _, _, rfl, rfl, l, [.ref y2, .ref y3], (kk : Int) - 7, ?_⟩
        have len2 : ∀ (r r' : RowD), (rs ++ [r] ++ [r']).length ≤ 2 * (n + 1) := fun r r' => by simp; omega
        rcases hkk2 with rfl | rfl
        · exact ⟨.ref y2, rfl, rfl, SqL.of upd_same, rfl, p, _, _, rfl, rfl, B7.at_, lt_size (by simp; omega), _, _, _, _, _, _, rfl, B7.push w2 ⟨by omega, by omega⟩, len2 _ _⟩
        · exact ⟨.ref y3, rfl, rfl, SqL.of upd_same, rfl, p, _, _, rfl, rfl, B7.at_, lt_size (by simp; omega), _, _, _, _, _, _, rfl, B7.push w3 (by show b ≤ 7; omega), len2 _ _⟩
      · obtain ⟨u, hu2, hul⟩ := modN (y.fdiv 36) (m := 8) (by decide)
        obtain ⟨u4, hu4, hul4⟩ := modN (y.fdiv 36) (m := 4) (by decide)
        refine ⟨_, rfl, rfl, _, rfl, ?_⟩
        refine ite2 (fun c => ?_) (fun c => ?_)
        · refine ⟨_, rfl, .inl ⟨rfl, _, SqL.of B5.at_⟩, _, rfl, _, rfl, _, _, rfl, rfl, ⟨by decide, by decide⟩, _, _, rfl, rfl, (by show (0 : Int) < 8; decide), (by show 3 ≤ sizeLine; decide), fun y1 hy1 => ?_⟩
          have t1 := Same.new (o := .tup [.str "copy", vi b, .int (y.fdiv 36 % 8)]) hy1
          have B6 := (B5.step t1).push (v := .ref y1) (r := .copy b u) (tell_new (congrArg (fun i => [V.str "copy", vi b, V.int i]) hu2)) ⟨by omega, by omega⟩
          exact ⟨p, _, _, rfl, rfl, (B5.step t1).at_, lt_size (by omega), _, _, _, _, _, _, rfl, B6, len1 _⟩
        · obtain ⟨v2, hv2, hvl⟩ := modN (kk : Int) (m := 2) (by decide)
          refine ⟨_, rfl, .inl ⟨rfl, _, SqL.of B5.at_⟩, _, rfl, _, rfl, _, _, rfl, rfl, ⟨by decide, by decide⟩, _, _, rfl, rfl, (by show (0 : Int) < 4; decide), (by show 3 ≤ sizeLine; decide), fun y1 hy1 => ?_⟩
          have t1 := Same.new (o := .tup [.str "set", vi b, .int (y.fdiv 36 % 4)]) hy1
          refine ⟨_, rfl, _, rfl, _, _, rfl, rfl, ⟨by decide, by decide⟩, _, _, rfl, rfl, (by show (0 : Int) < 8; decide), _, rfl, (by show 4 ≤ sizeLine; decide), fun y2 hy2 => ?_⟩
          have t2 := Same.new (o := .tup [.str "add", vi b, .int (y.fdiv 36 % 8), vi b]) hy2
          refine ⟨(by show 2 ≤ sizeLine; decide), fun l hl => ?_⟩
          have t3 := Same.new (o := .lst [.ref y1, .ref y2]) hl
          have B6 := ((B5.step t1).step t2).step t3
          have w1 : TellV K true _ (.ref y1) (.set b u4) := (Same.kp (Same.trans t2 t3)).tell (tell_new (congrArg (fun i => [V.str "set", vi b, V.int i]) hu4))
          have w2 : TellV K true _ (.ref y2) (.add b u b) := (Same.kp t3).tell (tell_new (congrArg (fun i => [V.str "add", vi b, V.int i, vi b]) hu2))
          refine ⟨_, rfl, _, _, rfl, rfl, (by show (0 : Int) < 2; decide), l, [.ref y1, .ref y2], (kk : Int) % 2, ?_⟩
          match v2, hvl with
          | 0, _ => exact ⟨.ref y1, rfl, rfl, SqL.of upd_same, at_nat hv2 rfl, p, _, _, rfl, rfl, B6.at_, lt_size (by omega), _, _, _, _, _, _, rfl, B6.push w1 ⟨by omega, by omega⟩, len1 _⟩
          | 1, _ => exact ⟨.ref y2, rfl, rfl, SqL.of upd_same, at_nat hv2 rfl, p, _, _, rfl, rfl, B6.at_, lt_size (by omega), _, _, _, _, _, _, rfl, B6.push w2 ⟨by omega, by omega, by omega⟩, len1 _⟩
    · subst eσ
      rw [List.length_map] at hrl
      exact ⟨_, rfl, k _ p xs rs B hrl⟩
end
end Fb

set_option Elab.async false
set_option linter.all false
set_option maxRecDepth 100000
set_option maxHeartbeats 4000000
namespace Fb
open PySem PySem.Spec PyProof.Rows L2
open He (ga ma)
theorem lc_zipL {K : PySem.W.Frag} {a b : Addr} {xs ys : List V} {g : TG} {tt : TT} {te : TE} {vs : List Nat} {σ : L2.St} {H1 : Hp} {D : Addr} {Qd : Hp → Prop} (hlen : xs.length = ys.length) (Pv : Nat → Hp → Prop) (h0 : Pv 0 (upd H1 D (.lst []))) (hl : ∀ i H, Pv i H → SqL K H a xs ∧ SqL K H b ys)
    (hs : ∀ (i : Nat) (x y : V) (T : Addr) (H : Hp), xs[i]? = some x → ys[i]? = some y → Pv i H → H T = none → g (.ref T) (wipe σ vs) (upd H T (.tup [x, y])) fun σ2 H2 => wipe σ2 vs = wipe σ vs ∧ tt σ2 H2 fun b H3 =>
      if b = true then te σ2 H3 fun y H4 => ∃ acc, H4 D = some (.lst acc) ∧ acc.length < sizeLine ∧ Pv (i + 1) (upd H4 D (.lst (acc ++ [y]))) else Pv (i + 1) H3) (hd : ∀ H, Pv xs.length H → Qd H) :
    ∃ W : Nat → Nat → Hp → Prop, (∃ m, W 0 m (upd H1 D (.lst []))) ∧ ∀ i m H, W i m H →
      ((Itz K a b).stop i H ∧ Qd H) ∨ ((Itz K a b).go i H ∧ ∃ Nx : Hp → Prop, (∀ H', Nx H' → ∃ m', m' < m ∧ W (i + 1) m' H') ∧ ∀ x H', (Itz K a b).yld i H x H' → g x (wipe σ vs) H' fun σ2 H2 => wipe σ2 vs = wipe σ vs ∧ tt σ2 H2 fun b H3 =>
        if b = true then te σ2 H3 fun y H4 => ∃ acc, H4 D = some (.lst acc) ∧ acc.length < sizeLine ∧ Nx (upd H4 D (.lst (acc ++ [y]))) else Nx H3) := by
  refine ⟨fun i m H => m = xs.length - i ∧ i ≤ xs.length ∧ Pv i H, ⟨xs.length, by simp, Nat.zero_le _, h0⟩, ?_⟩
  rintro i m H ⟨rfl, hi, p⟩
  obtain ⟨qx, qy⟩ := hl i H p
  by_cases hlt : i < xs.length
  · have hx : xs[i]? = some xs[i] := List.getElem?_eq_getElem hlt
    have hlt2 : i < ys.length := by omega
    have hy : ys[i]? = some ys[i] := List.getElem?_eq_getElem hlt2
    refine .inr ⟨⟨xs, ys, _, _, qx, qy, hx, hy⟩, Pv (i + 1), fun H' p' => ⟨xs.length - (i + 1), by omega, rfl, hlt, p'⟩, fun v H' y => ?_⟩
    obtain ⟨T, x', y', rfl, hT, rfl, f1, f2⟩ := y
    exact hs i x' y' T H (f1 xs qx) (f2 ys qy) p hT
  · have e : i = xs.length := by omega
    subst e
    exact .inl ⟨⟨xs, ys, qx, qy, Or.inl (Nat.le_refl _)⟩, hd H p⟩
theorem cut_take' (l : List Nat) (k : Nat) : cutV (ns l) none (some (k : Int)) = ns (l.take k) := by
  unfold cutV
  rw [HT.sIx_none, HT.sIx_nat, Nat.sub_zero, List.drop_zero]
  by_cases h : k ≤ (ns l).length
  · rw [Nat.min_eq_left h]
    exact List.map_take.symm
  · rw [Nat.min_eq_right (by omega), List.take_length]
    rw [List.length_map] at h
    rw [List.take_of_length_le (by omega)]
theorem cutI_take (l : List Int) (k : Nat) : cutV (l.map V.int) none (some (k : Int)) = (l.take k).map V.int := by
  unfold cutV
  rw [HT.sIx_none, HT.sIx_nat, Nat.sub_zero, List.drop_zero]
  by_cases h : k ≤ (l.map V.int).length
  · rw [Nat.min_eq_left h]
    exact List.map_take.symm
  · rw [Nat.min_eq_right (by omega), List.take_length]
    rw [List.length_map] at h
    rw [List.take_of_length_le (by omega)]
theorem cutI (l : List Int) (i j : Nat) : ∃ l' : List Int, cutV (l.map V.int) (some (i : Int)) (some (j : Int)) = l'.map V.int ∧ l'.length ≤ j - i := by
  unfold cutV
  rw [HT.sIx_nat, HT.sIx_nat]
  refine ⟨(l.drop (min i (l.map V.int).length)).take (min j (l.map V.int).length - min i (l.map V.int).length), ?_, ?_⟩
  · rw [List.map_take, List.map_drop]
  · rw [List.length_take]
    omega
theorem cutI_drop (l : List Int) (k : Nat) : cutV (l.map V.int) (some (k : Int)) none = (l.drop k).map V.int := by
  unfold cutV
  rw [HT.sIx_none, HT.sIx_nat]
  by_cases h : k ≤ (l.map V.int).length
  · rw [Nat.min_eq_left h, List.take_of_length_le (by rw [List.length_drop]; omega)]
    exact List.map_drop.symm
  · rw [Nat.min_eq_right (by omega), Nat.sub_self, List.take_zero]
    rw [List.length_map] at h
    rw [List.drop_of_length_le (by omega)]
    rfl
section
variable {P : Program} {w : World} {K : PySem.W.Frag} {mg : Str → Option Value} {base : Heap}
theorem Bd.cat {neg : Bool} {H0 H : Hp} {p q l : Addr} {xs ys : List V} {rs ss : List RowD} (B : Bd K neg H0 p H xs rs) (C : Bd K neg H0 q H ys ss) (hl : H l = none) : Bd K neg H0 l (upd H l (.lst (xs ++ ys))) (xs ++ ys) (rs ++ ss) := by
  have s := Same.new (o := .lst (xs ++ ys)) hl
  refine ⟨Same.back B.same hl, Same.trans B.same s, upd_same, ⟨by rw [List.length_append, List.length_append, B.al.1, C.al.1], fun i r hr => ?_⟩, fun r hr => ?_⟩
  · by_cases c : i < rs.length
    · rw [List.getElem?_append_left c] at hr
      obtain ⟨v, h1, h2⟩ := B.al.2 i r hr
      exact ⟨v, by rw [List.getElem?_append_left (by rw [B.al.1]; exact c)]; exact h1, (Same.kp s).tell h2⟩
    · rw [List.getElem?_append_right (by omega)] at hr
      obtain ⟨v, h1, h2⟩ := C.al.2 _ r hr
      exact ⟨v, by rw [List.getElem?_append_right (by rw [B.al.1]; omega), B.al.1]; exact h1, (Same.kp s).tell h2⟩
  · rcases List.mem_append.mp hr with h | h
    · exact B.ok r h
    · exact C.ok r h
def spFunction (K : PySem.W.Frag) : Sp := fun vs H Q _ => ∃ (z : Int) (a : Addr) (at_ : Nat) (zs : List Int), vs = [.int z, .ref a, vi at_] ∧ H a = some (.lst (zs.map V.int)) ∧ zs.length ≤ 5 ∧ at_ ≤ 100 ∧
  ∀ H' t p xs rs (e : Nat), H' t = some (.tup [.ref p, vi e]) → Bd K true H p H' xs rs → rs.length ≤ 21 → Q (.ref t) H'
theorem r_law_function (T : Tx K mg) : FnR P w K mg base CX0 2 (ga K "_law_function") (spFunction K) := by
  refine fnr0 T.F_law_function sc_law_function (fun vs H Q E h => ?_) hb_law_function (fun cdv A outer s H vs Q E hr h => ?_)
  · obtain ⟨z, a, at_, zs, rfl, _⟩ := h
    rfl
  · obtain ⟨z, a, at_, zs, rfl, ha, hz, hat, k⟩ := h
    refine ⟨_, (pss_cons (ps_set (i := 3) sc_law_function.nd rfl (.inr rfl) (pe_lc (own := [("_law_box", 11), ("_law_bit", 12)]) (g := gTup K 2 (gCons (gName 11) (gCons (gName 12) gNil))) rfl sc_law_function.nd (pi_zip rfl T.fr_zip (pa_cons (pe_lst (pa_cons pe_int (pa_cons pe_int (pa_cons pe_int (pa_cons pe_int pa_nil))))) (pa_cons (pe_lst (pa_cons pe_int (pa_cons pe_int (pa_cons pe_int (pa_cons pe_int pa_nil))))) pa_nil)))
          (blkOk_by (N := N_law_function) (sc := defScope s_law_function) (by decide +kernel)) (fun _ _ _ _ _ => pgT rfl rfl (pgs_cons (pg_name (i := 11) sc_law_function.nd rfl (.inl rfl)) (pgs_cons (pg_name (i := 12) sc_law_function.nd rfl (.inl rfl)) pgs_nil))) (fun _ _ _ _ _ => pts_one (pt_cmpR op_ne (pe_op op_and (pv 0) (pv 12)) pe_int (nomark _)))
          (fun _ _ _ _ _ => pv 11)))
      (pss_cons (ps_set (i := 4) sc_law_function.nd rfl (.inr rfl) (pe_op op_add (pe_callB call_len_seq rfl T.fr_len (by decide +kernel) (pa_cons (pv 3) pa_nil)) (pe_op op_mod (pe_op op_fdivN (pv 0) pe_int) pe_int)))
      (pss_cons (ps_set (i := 5) sc_law_function.nd rfl (.inr rfl) (pe_op op_mod (pe_op op_fdivN (pv 0) pe_int) pe_int))
      (pss_cons (ps_set (i := 6) sc_law_function.nd rfl (.inr rfl) (pe_lc (own := [("_law_k", 13)]) (g := gName 13) (tt := tYes) rfl sc_law_function.nd (pi_range1 rfl T.fr_range (pa_cons pe_int pa_nil)) (blkOk_by (N := N_law_function) (sc := defScope s_law_function) (by decide +kernel)) (fun _ _ _ _ _ => pg_name (i := 13) sc_law_function.nd rfl (.inl rfl)) (fun _ _ _ _ _ => pts_nil)
          (fun _ _ _ _ _ => pe_op op_mod (pe_op op_add (pv 13) (pv 5)) (pe_callB (call_max2 rfl) rfl T.fr_max (by decide +kernel) (pa_cons pe_int (pa_cons (pv 4) pa_nil))))))
      (pss_cons (ps_set (i := 7) sc_law_function.nd rfl (.inl rfl) (pe_un un_neg pe_int))
      (pss_cons (ps_if (pt_cmpR op_gt (pv 4) (pe_callB call_len_seq rfl T.fr_len (by decide +kernel) (pa_cons (pv 3) pa_nil)) (nomark _)) (pss_one (ps_set (i := 7) sc_law_function.nd rfl (.inl rfl) (pe_ix ix_list (pv 6) (pe_callB call_len_seq rfl T.fr_len (by decide +kernel) (pa_cons (pv 3) pa_nil)) (fun _ _ => rfl)))) pss_nil)
      (pss_cons (ps_set (i := 8) sc_law_function.nd rfl (.inl rfl) (pe_lst pa_nil))
      (pss_cons (ps_if (pt_cmpR op_gt (pv 4) pe_int (nomark _)) (pss_one (ps_expr (pe_bm PySem.F.plainAttrs_list PySem.F.slot_list_append PySem.F.type_list_append mt_append (pv 8) (pa_cons (pe_tup (pa_cons pe_str (pa_cons (pv 4) pa_nil))) pa_nil)))) pss_nil)
      (pss_cons (ps_set (i := 9) sc_law_function.nd rfl (.inl rfl) (pe_op op_fdiv (pe_op op_mul (pe_callB call_len_seq rfl T.fr_len (by decide +kernel) (pa_cons (pv 3) pa_nil)) (pe_op op_mod (pe_op op_fdivN (pv 0) pe_int) pe_int)) pe_int))
      (pss_cons (ps_set (i := 8) sc_law_function.nd rfl (.inl rfl) (pe_op op_cat (pv 8) (pe_lc (own := [("_law_k", 13)]) (g := gName 13) (tt := tYes) rfl sc_law_function.nd (pi_range1 rfl T.fr_range (pa_cons (pv 9) pa_nil)) (blkOk_by (N := N_law_function) (sc := defScope s_law_function) (by decide +kernel)) (fun _ _ _ _ _ => pg_name (i := 13) sc_law_function.nd rfl (.inl rfl)) (fun _ _ _ _ _ => pts_nil)
          (fun _ _ _ _ _ => pe_tup (pa_cons pe_str (pa_cons (pe_ix (ixL (K := K) rfl) (pv 3) (pv 13) (fun _ _ => rfl)) (pa_cons (pe_ix (ixL (K := K) rfl) (pv 6) (pv 13) (fun _ _ => rfl)) pa_nil)))))))
      (pss_cons (ps_set (i := 8) sc_law_function.nd rfl (.inl rfl) (pe_op op_cat (pv 8) (pe_f (r_law_body T) hr rfl T.gl_law_body T.kp_law_body pass0 (pa_cons (pe_slice sl_list (pv 1) po_none (po_some pe_int)) (pa_cons (pe_slice sl_list (pv 3) po_none (po_some (pv 9))) (pa_cons (pe_un un_neg pe_int) (pa_cons (pe_op op_add (pv 2) (pe_callB call_len_seq rfl T.fr_len (by decide +kernel) (pa_cons (pv 8) pa_nil))) pa_nil)))))))
      (pss_cons (ps_set (i := 8) sc_law_function.nd rfl (.inl rfl) (pe_op op_cat (pv 8) (pe_lc (own := [("_law_k", 13)]) (g := gName 13) (tt := tYes) rfl sc_law_function.nd (pi_range2 rfl T.fr_range (pa_cons (pv 9) (pa_cons (pe_callB call_len_seq rfl T.fr_len (by decide +kernel) (pa_cons (pv 3) pa_nil)) pa_nil))) (blkOk_by (N := N_law_function) (sc := defScope s_law_function) (by decide +kernel)) (fun _ _ _ _ _ => pg_name (i := 13) sc_law_function.nd rfl (.inl rfl)) (fun _ _ _ _ _ => pts_nil)
          (fun _ _ _ _ _ => pe_tup (pa_cons pe_str (pa_cons (pe_ix (ixL (K := K) rfl) (pv 3) (pv 13) (fun _ _ => rfl)) (pa_cons (pe_ix (ixL (K := K) rfl) (pv 6) (pv 13) (fun _ _ => rfl)) pa_nil)))))))
      (pss_cons (ps_set (i := 8) sc_law_function.nd rfl (.inl rfl) (pe_op op_cat (pv 8) (pe_f (r_law_body T) hr rfl T.gl_law_body T.kp_law_body pass0 (pa_cons (pe_slice sl_list (pv 1) (po_some pe_int) po_none) (pa_cons (pv 3) (pa_cons (pv 7) (pa_cons (pe_op op_add (pv 2) (pe_callB call_len_seq rfl T.fr_len (by decide +kernel) (pa_cons (pv 8) pa_nil))) pa_nil)))))))
      (pss_cons (ps_set (i := 10) sc_law_function.nd rfl (.inl rfl) (pe_op op_add (pv 2) (pe_callB call_len_seq rfl T.fr_len (by decide +kernel) (pa_cons (pv 8) pa_nil))))
      (pss_cons (ps_set (i := 8) sc_law_function.nd rfl (.inl rfl) (pe_op op_cat (pv 8) (pe_lc (own := [("_law_k", 13)]) (g := gName 13) (tt := tYes) rfl sc_law_function.nd (pi_range1 rfl T.fr_range (pa_cons (pe_callB call_len_seq rfl T.fr_len (by decide +kernel) (pa_cons (pv 3) pa_nil)) pa_nil)) (blkOk_by (N := N_law_function) (sc := defScope s_law_function) (by decide +kernel)) (fun _ _ _ _ _ => pg_name (i := 13) sc_law_function.nd rfl (.inl rfl)) (fun _ _ _ _ _ => pts_nil)
          (fun _ _ _ _ _ => pe_tup (pa_cons pe_str (pa_cons (pe_ix (ixL (K := K) rfl) (pv 3) (pv 13) (fun _ _ => rfl)) (pa_cons (pe_ix (ixL (K := K) rfl) (pv 6) (pv 13) (fun _ _ => rfl)) pa_nil)))))))
      (pss_cons (ps_if (pt_cmpR op_gt (pv 4) pe_int (nomark _)) (pss_one (ps_expr (pe_bm PySem.F.plainAttrs_list PySem.F.slot_list_append PySem.F.type_list_append mt_append (pv 8) (pa_cons (pe_tup (pa_cons pe_str (pa_cons (pv 4) pa_nil))) pa_nil)))) pss_nil)
      (pss_cons (ps_if (pt_cmpR op_eq (pe_op op_mod (pe_op op_fdivN (pv 0) pe_int) pe_int) pe_int (nomark _)) (pss_one (ps_expr (pe_bm PySem.F.plainAttrs_list PySem.F.slot_list_append PySem.F.type_list_append mt_append (pv 8) (pa_cons (pe_tup (pa_cons pe_str (pa_cons (pe_op op_sub (pe_un un_neg pe_int) (pe_op op_mod (pe_op op_fdivN (pv 0) pe_int) pe_int)) pa_nil))) pa_nil)))) (pss_one (ps_expr (pe_bm PySem.F.plainAttrs_list PySem.F.slot_list_append PySem.F.type_list_append mt_append (pv 8) (pa_cons (pe_tup (pa_cons pe_str (pa_cons pe_int pa_nil))) pa_nil)))))
      (pss_one (ps_ret (pe_tup (pa_cons (pv 8) (pa_cons (pv 10) pa_nil)))))))))))))))))))))), ?_⟩
    -- the saved boxes
    refine seq_join (t := tAsg _ _) (fun σ H2 => ∃ (sv : Addr) (saved : List Nat), σ = [some (.int z), some (.ref a), some (vi at_), some (.ref sv), none, none, none, none, none, none, none, none, none, none] ∧ Same H H2 ∧ H2 sv = some (.lst (ns saved)) ∧ saved.length ≤ 4 ∧ ∀ s ∈ saved, s ≤ 7) (fun σ H2 ⟨sv, saved, eσ, s2, hsv, h4, h7⟩ => ?_) (fun N rest => ?_)
    rotate_left
    · refine ⟨(by show 4 ≤ sizeLine; decide), fun l1 hl1 => ⟨(by show 4 ≤ sizeLine; decide), fun l2 hl2 => ?_⟩⟩
      have t1 := Same.new (o := .lst (ns [7, 4, 5, 6])) hl1
      have t2 := Same.new (o := .lst (ns [1, 2, 4, 8])) hl2
      refine ⟨l1, l2, ns [7, 4, 5, 6], ns [1, 2, 4, 8], rfl, SqL.of (t2 _ _ upd_same), SqL.of upd_same, fun D hD => ?_⟩
      have hb1 : upd (upd H l1 (.lst (ns [7, 4, 5, 6]))) l2 (.lst (ns [1, 2, 4, 8])) l1 = some (.lst (ns [7, 4, 5, 6])) := t2 _ _ upd_same
      have hb2 : upd (upd H l1 (.lst (ns [7, 4, 5, 6]))) l2 (.lst (ns [1, 2, 4, 8])) l2 = some (.lst (ns [1, 2, 4, 8])) := upd_same
      refine lc_zipL (K := K) (a := l1) (b := l2) (xs := ns [7, 4, 5, 6]) (ys := ns [1, 2, 4, 8]) rfl (fun i H' => ∃ saved : List Nat, Same (upd (upd H l1 (.lst (ns [7, 4, 5, 6]))) l2 (.lst (ns [1, 2, 4, 8]))) H' ∧ H' D = some (.lst (ns saved)) ∧ saved.length ≤ i ∧ ∀ s ∈ saved, s ≤ 7) ⟨[], Same.new hD, upd_same, Nat.le_refl _, fun s hs => by cases hs⟩ (fun i H' ⟨_, sm, _⟩ => ⟨SqL.of (sm _ _ hb1), SqL.of (sm _ _ hb2)⟩) (fun i x y Z H' hx hy ⟨saved, sm, hDl, hl, h7⟩ hZ => ?_) (fun H' ⟨saved, sm, hDl, hl, h7⟩ => ?_)
      · have sZ := Same.new (o := .tup [x, y]) hZ
        obtain ⟨b, hb, rfl⟩ := List.mem_map.mp (List.mem_of_getElem? hx)
        obtain ⟨c, _, rfl⟩ := List.mem_map.mp (List.mem_of_getElem? hy)
        have hb7 : b ≤ 7 := by simp at hb; omega
        have hi4 : i < 4 := (List.getElem?_eq_some_iff.mp hx).1
        refine ⟨Z, _, rfl, SqT.of upd_same, rfl, _, _, rfl, _, _, rfl, rfl, rfl, _, rfl, _, rfl, _, _, rfl, rfl, rfl, _, rfl, ?_⟩
        refine ite2 (fun _ => ?_) (fun _ => ⟨saved, Same.trans sm sZ, sZ _ _ hDl, by omega, h7⟩)
        refine ⟨_, rfl, _, sZ _ _ hDl, lt_size (by rw [List.length_map]; omega), saved ++ [b], Same.mut (Same.trans sm sZ) hD, ?_, by simp; omega, fun s hs => ?_⟩
        · rw [upd_same]
          simp [ns]
        · rcases List.mem_append.mp hs with hs | hs
          · exact h7 s hs
          · rw [List.mem_singleton.mp hs]
            exact hb7
      · exact rest _ _ ⟨D, saved, rfl, Same.trans (Same.trans t1 t2) sm, hDl, hl, h7⟩
    subst eσ
    have elen : ((ns saved).length : Int) = (saved.length : Int) := by rw [List.length_map]
    -- the height
    refine seq_join (t := tAsg _ _) (fun σ H3 => H2 = H3 ∧ ∃ hh : Nat, hh ≤ saved.length + 1 ∧ σ = [some (.int z), some (.ref a), some (vi at_), some (.ref sv), some (vi hh), none, none, none, none, none, none, none, none, none]) (fun σ H3 ⟨eH, hh, hhl, eσ⟩ => ?_) (fun N rest => ?_)
    rotate_left
    · obtain ⟨m, hm, hml⟩ := modN (z.fdiv 16) (m := 2) (by decide)
      refine ⟨_, rfl, sv, _, rfl, .inl (SqL.of hsv), _, rfl, _, _, rfl, rfl, ⟨by decide, by decide⟩, _, _, rfl, rfl, (by show (0 : Int) < 2; decide), _, _, rfl, rfl, rest _ _ ⟨rfl, saved.length + m, by omega, ?_⟩⟩
      show [_, _, _, _, some (V.int (((ns saved).length : Int) + z.fdiv 16 % 2)), _, _, _, _, _, _, _, _, _] = _
      rw [elen, show (z.fdiv 16 % 2 : Int) = (m : Int) from hm]
      rfl
    subst eH eσ
    -- the turn
    refine seq_join (t := tAsg _ _) (fun σ H3 => H2 = H3 ∧ ∃ tu : Nat, σ = [some (.int z), some (.ref a), some (vi at_), some (.ref sv), some (vi hh), some (vi tu), none, none, none, none, none, none, none, none]) (fun σ H3 ⟨eH, tu, eσ⟩ => ?_) (fun N rest => ?_)
    rotate_left
    · obtain ⟨m, hm, hml⟩ := modN (z.fdiv 32) (m := 5) (by decide)
      exact ⟨_, rfl, _, _, rfl, rfl, ⟨by decide, by decide⟩, _, _, rfl, rfl, (by show (0 : Int) < 5; decide), rest _ _ ⟨rfl, m, congrArg (fun i => [some (V.int z), some (V.ref a), some (vi at_), some (V.ref sv), some (vi hh), some (V.int i), none, none, none, none, none, none, none, none]) hm⟩⟩
    subst eH eσ
    -- the places
    refine seq_join (t := tAsg _ _) (fun σ H3 => ∃ (pa : Addr) (pls : List Nat), σ = [some (.int z), some (.ref a), some (vi at_), some (.ref sv), some (vi hh), some (vi tu), some (.ref pa), none, none, none, none, none, none, none] ∧ Same H2 H3 ∧ H3 pa = some (.lst (ns pls)) ∧ pls.length = 5 ∧ ∀ s ∈ pls, s ≤ 4) (fun σ H3 ⟨pa, pls, eσ, s3, hpa, hp5, hp4⟩ => ?_) (fun N rest => ?_)
    rotate_left
    · refine ⟨5, rfl, by decide, by decide, fun D hD => ?_⟩
      refine lc_range (lo := 0) (n := 5) (fun i H' => ∃ pls : List Nat, Same H2 H' ∧ H' D = some (.lst (ns pls)) ∧ pls.length = i ∧ ∀ s ∈ pls, s ≤ 4) ⟨[], Same.new hD, upd_same, rfl, fun s hs => by cases hs⟩ (fun i H' hi ⟨pls, sm, hDl, hl, hle⟩ => ?_) (fun H' ⟨pls, sm, hDl, hl, hle⟩ => rest _ _ ⟨D, pls, rfl, sm, hDl, hl, hle⟩)
      have hmx : (if (hh : Int) > 1 then (hh : Int) else 1) = ((max 1 hh : Nat) : Int) := by
        by_cases c : (hh : Int) > 1
        · rw [if_pos c]
          omega
        · rw [if_neg c]
          omega
      obtain ⟨m, hm, hml⟩ := modN ((0 : Int) + (i : Int) + (tu : Int)) (m := max 1 hh) (by omega)
      refine ⟨rfl, _, rfl, _, rfl, _, _, rfl, rfl, _, rfl, _, _, rfl, _, _, rfl, rfl, ?_, _, hDl, lt_size (by rw [List.length_map]; omega), pls ++ [m], Same.mut sm hD, ?_, by simp [hl], fun s hs => ?_⟩
      · show (0 : Int) < (if (hh : Int) > 1 then (hh : Int) else 1)
        rw [hmx]
        omega
      · rw [upd_same]
        show some (HO.lst (ns pls ++ [V.int (((0 : Int) + (i : Int) + (tu : Int)) % (if (hh : Int) > 1 then (hh : Int) else 1))])) = _
        rw [hmx, hm]
        simp [ns]
        rfl
      · rcases List.mem_append.mp hs with hs | hs
        · exact hle s hs
        · rw [List.mem_singleton.mp hs]
          omega
    subst eσ
    have hsv := s3 _ _ hsv
    have s2 := Same.trans s2 s3
    -- the spare cell
    refine seq_join (t := tAsg _ _) (fun σ H4 => H3 = H4 ∧ σ = [some (.int z), some (.ref a), some (vi at_), some (.ref sv), some (vi hh), some (vi tu), some (.ref pa), some (.int (-1)), none, none, none, none, none, none]) (fun σ H4 ⟨eH, eσ⟩ => ?_) (fun N rest => ?_)
    rotate_left
    · exact ⟨_, rfl, rest _ _ ⟨rfl, rfl⟩⟩
    subst eH eσ
    refine seq_join (t := tIfS _ _ _) (fun σ H4 => H3 = H4 ∧ ∃ sp : Int, sp ≤ 5 ∧ σ = [some (.int z), some (.ref a), some (vi at_), some (.ref sv), some (vi hh), some (vi tu), some (.ref pa), some (.int sp), none, none, none, none, none, none]) (fun σ H4 ⟨eH, sp, hsp, eσ⟩ => ?_) (fun N rest => ?_)
    rotate_left
    · refine ⟨_, rfl, _, rfl, sv, _, rfl, .inl (SqL.of hsv), _, _, rfl, rfl, _, rfl, ?_⟩
      refine ite2 (fun c => ?_) (fun c => rest _ _ ⟨rfl, -1, by omega, rfl⟩)
      have hpl : pls.getD saved.length 0 ≤ 4 := by
        rw [List.getD_eq_getElem?_getD, List.getElem?_eq_getElem (show saved.length < pls.length by omega)]
        exact hp4 _ (List.getElem_mem _)
      refine ⟨_, rfl, _, rfl, sv, _, rfl, .inl (SqL.of hsv), pa, ns pls, _, vi (pls.getD saved.length 0), rfl, rfl, SqL.of hpa, at_nat elen (ns_getD (by omega)), rest _ _ ⟨rfl, _, ?_, rfl⟩⟩
      show ((pls.getD saved.length 0 : Nat) : Int) ≤ 5
      omega
    subst eH eσ
    -- the first row
    refine ⟨(by show 0 ≤ sizeLine; decide), fun p0 hp0 => ?_⟩
    have B0 : Bd K true H p0 (upd H3 p0 (.lst [])) [] [] := ⟨Same.back s2 hp0, Same.trans s2 (Same.new hp0), upd_same, .nil, fun r hr => by cases hr⟩
    have n1 : sv ≠ p0 := ne_of_none hsv hp0
    have n2 : pa ≠ p0 := ne_of_none hpa hp0
    have hsv := Same.new (o := .lst []) hp0 _ _ hsv
    have hpa := Same.new (o := .lst []) hp0 _ _ hpa
    dsimp only [gName, tNext]
    refine seq_join (t := tIfS _ _ _) (fun σ H4 => σ = [some (.int z), some (.ref a), some (vi at_), some (.ref sv), some (vi hh), some (vi tu), some (.ref pa), some (.int sp), some (.ref p0), none, none, none, none, none] ∧ ∃ xs rs, Bd K true H p0 H4 xs rs ∧ rs.length ≤ 1 ∧ H4 sv = some (.lst (ns saved)) ∧ H4 pa = some (.lst (ns pls))) (fun σ H4 ⟨eσ, xs, rs, B, hrl, hsv, hpa⟩ => ?_) (fun N rest => ?_)
    rotate_left
    · refine ⟨_, rfl, _, _, rfl, rfl, _, rfl, ?_⟩
      refine ite2 (fun c => ?_) (fun c => rest _ _ ⟨rfl, [], [], B0, by simp, hsv, hpa⟩)
      refine ⟨_, rfl, .inl ⟨rfl, _, SqL.of B0.at_⟩, _, rfl, (by show 2 ≤ sizeLine; decide), fun yt hyt => ?_⟩
      have t1 := Same.new (o := .tup [.str "grow", vi hh]) hyt
      have B1 := (B0.step t1).push (v := .ref yt) (r := .grow hh) (tell_new rfl) (by show hh ≤ 5; omega)
      exact ⟨p0, _, _, rfl, rfl, (B0.step t1).at_, lt_size (by simp), rest _ _ ⟨rfl, _, _, B1, by simp, by rw [upd_ne n1]; exact t1 _ _ hsv, by rw [upd_ne n2]; exact t1 _ _ hpa⟩⟩
    subst eσ
    have hzz : (zs.take 1).length + (zs.drop 1).length = zs.length := by rw [← List.length_append, List.take_append_drop]
    -- the cut
    refine seq_join (t := tAsg _ _) (fun σ H5 => H4 = H5 ∧ ∃ cu : Nat, cu ≤ saved.length ∧ σ = [some (.int z), some (.ref a), some (vi at_), some (.ref sv), some (vi hh), some (vi tu), some (.ref pa), some (.int sp), some (.ref p0), some (vi cu), none, none, none, none]) (fun σ H5 ⟨eH, cu, hcu, eσ⟩ => ?_) (fun N rest => ?_)
    rotate_left
    · obtain ⟨m, hm, hml⟩ := modN (z.fdiv 160) (m := 3) (by decide)
      have hle : saved.length * m ≤ saved.length * 2 := Nat.mul_le_mul_left _ (by omega)
      refine ⟨_, rfl, sv, _, rfl, .inl (SqL.of hsv), _, rfl, _, _, rfl, rfl, ⟨by decide, by decide⟩, _, _, rfl, rfl, (by show (0 : Int) < 3; decide), _, _, rfl, rfl, .inl ⟨?_, ?_⟩, _, _, rfl, rfl, ⟨by decide, by decide⟩, rest _ _ ⟨rfl, saved.length * m / 2, by omega, ?_⟩⟩
      · show (-(2 ^ 64) : Int) < ((ns saved).length : Int)
        omega
      · show ((ns saved).length : Int) < (2 ^ 64 : Int)
        omega
      · show [_, _, _, _, _, _, _, _, _, some (V.int (((ns saved).length : Int) * (z.fdiv 160 % 3) / 2)), _, _, _, _] = _
        rw [elen, show (z.fdiv 160 % 3 : Int) = (m : Int) from hm, show ((saved.length : Int) * (m : Int) / 2) = ((saved.length * m / 2 : Nat) : Int) by rw [Int.natCast_ediv, Int.natCast_mul]; rfl]
        rfl
    subst eH eσ
    -- rows of cells
    refine seq_join (t := tAsg _ _) (fun σ H5 => ∃ (p5 : Addr) (xs5 : List V) (rs5 : List RowD), σ = [some (.int z), some (.ref a), some (vi at_), some (.ref sv), some (vi hh), some (vi tu), some (.ref pa), some (.int sp), some (.ref p5), some (vi cu), none, none, none, none] ∧ Bd K true H p5 H5 xs5 rs5 ∧ rs5.length ≤ 1 + cu ∧ H5 sv = some (.lst (ns saved)) ∧ H5 pa = some (.lst (ns pls))) (fun σ H5 ⟨p5, xs, rs, eσ, B5, hrl5, hsv5, hpa5⟩ => ?_) (fun N rest => ?_)
    rotate_left
    · refine ⟨_, rfl, _, rfl, (cu : Int), rfl, by omega, by omega, fun D hD => ?_⟩
      have hD0 := Same.back B.same hD
      refine lc_range (lo := 0) (n := cu) (fun i H' => ∃ ys ss, Same H4 H' ∧ Bd K true H D H' ys ss ∧ ss.length ≤ i) ⟨[], [], Same.new hD, ⟨hD0, Same.trans B.same (Same.new hD), upd_same, .nil, fun r hr => by cases hr⟩, Nat.le_refl _⟩ (fun i H' hi ⟨ys, ss, sm, C, hsl⟩ => ?_) (fun H' ⟨ys, ss, sm, C, hsl⟩ => ?_)
      · have hi1 : i < saved.length := by omega
        have hi2 : i < pls.length := by omega
        have hb7 : saved.getD (i) 0 ≤ 7 := by
          rw [List.getD_eq_getElem?_getD, List.getElem?_eq_getElem hi1]
          exact h7 _ (List.getElem_mem _)
        have hc4 : pls.getD (i) 0 ≤ 4 := by
          rw [List.getD_eq_getElem?_getD, List.getElem?_eq_getElem hi2]
          exact hp4 _ (List.getElem_mem _)
        refine ⟨rfl, _, rfl, _, rfl, sv, ns saved, _, vi (saved.getD (i) 0), rfl, rfl, SqL.of (sm _ _ hsv), at_nat (j := i) (by omega) (ns_getD hi1), _, rfl, _, rfl, pa, ns pls, _, vi (pls.getD (i) 0), rfl, rfl, SqL.of (sm _ _ hpa), at_nat (j := i) (by omega) (ns_getD hi2), (by show 3 ≤ sizeLine; decide), fun yt hyt => ?_⟩
        have t1 := Same.new (o := .tup [.str "put", vi (saved.getD (i) 0), vi (pls.getD (i) 0)]) hyt
        have C1 := (C.step t1).push (v := .ref yt) (r := .put (saved.getD (i) 0) (pls.getD (i) 0)) (tell_new rfl) ⟨hb7, by omega⟩
        exact ⟨ys, (C.step t1).at_, lt_size (by rw [C.al.1]; omega), _, _, Same.mut (Same.trans sm t1) hD, C1, by simp; omega⟩
      · have B' := B.step sm
        refine ⟨_, D, _, _, rfl, rfl, B'.at_, C.at_, le_size (by rw [B.al.1, C.al.1]; omega), fun l hl => ?_⟩
        have s9 := Same.new (o := .lst (xs ++ ys)) hl
        exact rest _ _ ⟨l, _, _, rfl, B'.cat C hl, by rw [List.length_append]; omega, s9 _ _ (sm _ _ hsv), s9 _ _ (sm _ _ hpa)⟩
    subst eσ
    clear hsv hpa B hrl
    have hsv := hsv5
    have hpa := hpa5
    have B := B5
    have hrl := hrl5
    clear hsv5 hpa5 B5 hrl5
    -- a part of the body
    refine seq_join (t := tAsg _ _) (fun σ H6 => ∃ (p6 : Addr) (xs6 : List V) (rs6 : List RowD), σ = [some (.int z), some (.ref a), some (vi at_), some (.ref sv), some (vi hh), some (vi tu), some (.ref pa), some (.int sp), some (.ref p6), some (vi cu), none, none, none, none] ∧ Bd K true H p6 H6 xs6 rs6 ∧ rs6.length ≤ 1 + cu + 2 * (zs.take 1).length ∧ H6 sv = some (.lst (ns saved)) ∧ H6 pa = some (.lst (ns pls))) (fun σ H6 ⟨p6, xs, rs, eσ, B6, hrl6, hsv6, hpa6⟩ => ?_) (fun N rest => ?_)
    rotate_left
    · have hxs := B.al.1
      refine ⟨_, rfl, _, rfl, _, rfl, a, _, rfl, SqL.of (B.same _ _ ha), fun l1 hl1 => ?_⟩
      have t1 := Same.new (o := .lst (cutV (zs.map V.int) none (some 1))) hl1
      have e1 : cutV (zs.map V.int) none (some 1) = (zs.take 1).map V.int := cutI_take zs 1
      refine ⟨_, rfl, _, rfl, _, rfl, sv, _, rfl, SqL.of (t1 _ _ hsv), fun l2 hl2 => ?_⟩
      have t2 := Same.new (o := .lst (cutV (ns saved) none (some (cu : Int)))) hl2
      have tS := Same.trans t1 t2
      have B2 := B.step tS
      refine ⟨_, rfl, _, rfl, _, rfl, _, _, rfl, .inl (SqL.of B2.at_), _, _, rfl, rfl, l1, l2, -1, at_ + xs.length, (zs.take 1), (saved.take cu), rfl, by rw [← e1]; exact t2 _ _ upd_same, by rw [List.length_take]; omega, by rw [upd_same, cut_take' saved cu], fun s hs => h7 s (List.mem_of_mem_take hs), by rw [List.length_take]; omega, by omega, by omega, fun H' p ys ss C hsl => ?_⟩
      have sC := C.same
      have C' : Bd K true H p H' ys ss := ⟨Same.back B2.same C.new, Same.trans B2.same C.same, C.at_, C.al, C.ok⟩
      have B3 := B2.step sC
      refine ⟨_, p, _, _, rfl, rfl, B3.at_, C.at_, le_size (by rw [B.al.1, C.al.1]; omega), fun l hl => ?_⟩
      have s9 := Same.new (o := .lst (xs ++ ys)) hl
      exact rest _ _ ⟨l, _, _, rfl, B3.cat C' hl, by rw [List.length_append]; omega, s9 _ _ (sC _ _ (tS _ _ hsv)), s9 _ _ (sC _ _ (tS _ _ hpa))⟩
    subst eσ
    clear hsv hpa B hrl
    have hsv := hsv6
    have hpa := hpa6
    have B := B6
    have hrl := hrl6
    clear hsv6 hpa6 B6 hrl6
    -- rows of cells
    refine seq_join (t := tAsg _ _) (fun σ H7 => ∃ (p7 : Addr) (xs7 : List V) (rs7 : List RowD), σ = [some (.int z), some (.ref a), some (vi at_), some (.ref sv), some (vi hh), some (vi tu), some (.ref pa), some (.int sp), some (.ref p7), some (vi cu), none, none, none, none] ∧ Bd K true H p7 H7 xs7 rs7 ∧ rs7.length ≤ 1 + saved.length + 2 * (zs.take 1).length ∧ H7 sv = some (.lst (ns saved)) ∧ H7 pa = some (.lst (ns pls))) (fun σ H7 ⟨p7, xs, rs, eσ, B7, hrl7, hsv7, hpa7⟩ => ?_) (fun N rest => ?_)
    rotate_left
    · refine ⟨_, rfl, _, rfl, _, rfl, sv, _, rfl, .inl (SqL.of hsv), (cu : Int), _, rfl, ⟨by omega, by omega, by omega, by omega⟩, fun D hD => ?_⟩
      have hD0 := Same.back B.same hD
      refine lc_range (lo := cu) (n := (((ns saved).length : Int) - (cu : Int)).toNat) (fun i H' => ∃ ys ss, Same H6 H' ∧ Bd K true H D H' ys ss ∧ ss.length ≤ i) ⟨[], [], Same.new hD, ⟨hD0, Same.trans B.same (Same.new hD), upd_same, .nil, fun r hr => by cases hr⟩, Nat.le_refl _⟩ (fun i H' hi ⟨ys, ss, sm, C, hsl⟩ => ?_) (fun H' ⟨ys, ss, sm, C, hsl⟩ => ?_)
      · have hi1 : cu + i < saved.length := by omega
        have hi2 : cu + i < pls.length := by omega
        have hb7 : saved.getD (cu + i) 0 ≤ 7 := by
          rw [List.getD_eq_getElem?_getD, List.getElem?_eq_getElem hi1]
          exact h7 _ (List.getElem_mem _)
        have hc4 : pls.getD (cu + i) 0 ≤ 4 := by
          rw [List.getD_eq_getElem?_getD, List.getElem?_eq_getElem hi2]
          exact hp4 _ (List.getElem_mem _)
        refine ⟨rfl, _, rfl, _, rfl, sv, ns saved, _, vi (saved.getD (cu + i) 0), rfl, rfl, SqL.of (sm _ _ hsv), at_nat (j := cu + i) (by omega) (ns_getD hi1), _, rfl, _, rfl, pa, ns pls, _, vi (pls.getD (cu + i) 0), rfl, rfl, SqL.of (sm _ _ hpa), at_nat (j := cu + i) (by omega) (ns_getD hi2), (by show 3 ≤ sizeLine; decide), fun yt hyt => ?_⟩
        have t1 := Same.new (o := .tup [.str "put", vi (saved.getD (cu + i) 0), vi (pls.getD (cu + i) 0)]) hyt
        have C1 := (C.step t1).push (v := .ref yt) (r := .put (saved.getD (cu + i) 0) (pls.getD (cu + i) 0)) (tell_new rfl) ⟨hb7, by omega⟩
        exact ⟨ys, (C.step t1).at_, lt_size (by rw [C.al.1]; omega), _, _, Same.mut (Same.trans sm t1) hD, C1, by simp; omega⟩
      · have B' := B.step sm
        refine ⟨_, D, _, _, rfl, rfl, B'.at_, C.at_, le_size (by rw [B.al.1, C.al.1]; omega), fun l hl => ?_⟩
        have s9 := Same.new (o := .lst (xs ++ ys)) hl
        exact rest _ _ ⟨l, _, _, rfl, B'.cat C hl, by rw [List.length_append]; omega, s9 _ _ (sm _ _ hsv), s9 _ _ (sm _ _ hpa)⟩
    subst eσ
    clear hsv hpa B hrl
    have hsv := hsv7
    have hpa := hpa7
    have B := B7
    have hrl := hrl7
    clear hsv7 hpa7 B7 hrl7
    -- a part of the body
    refine seq_join (t := tAsg _ _) (fun σ H8 => ∃ (p8 : Addr) (xs8 : List V) (rs8 : List RowD), σ = [some (.int z), some (.ref a), some (vi at_), some (.ref sv), some (vi hh), some (vi tu), some (.ref pa), some (.int sp), some (.ref p8), some (vi cu), none, none, none, none] ∧ Bd K true H p8 H8 xs8 rs8 ∧ rs8.length ≤ 1 + saved.length + 2 * zs.length ∧ H8 sv = some (.lst (ns saved)) ∧ H8 pa = some (.lst (ns pls))) (fun σ H8 ⟨p8, xs, rs, eσ, B8, hrl8, hsv8, hpa8⟩ => ?_) (fun N rest => ?_)
    rotate_left
    · have hxs := B.al.1
      refine ⟨_, rfl, _, rfl, _, rfl, a, _, rfl, SqL.of (B.same _ _ ha), fun l1 hl1 => ?_⟩
      have t1 := Same.new (o := .lst (cutV (zs.map V.int) (some 1) none)) hl1
      have e1 : cutV (zs.map V.int) (some 1) none = (zs.drop 1).map V.int := cutI_drop zs 1
      refine ⟨_, rfl, ?_⟩
      have tS := t1
      have B2 := B.step tS
      refine ⟨_, rfl, _, rfl, _, rfl, _, _, rfl, .inl (SqL.of B2.at_), _, _, rfl, rfl, l1, sv, sp, at_ + xs.length, (zs.drop 1), saved, rfl, by rw [← e1]; exact upd_same, by rw [List.length_drop]; omega, tS _ _ hsv, h7, h4, hsp, by omega, fun H' p ys ss C hsl => ?_⟩
      have sC := C.same
      have C' : Bd K true H p H' ys ss := ⟨Same.back B2.same C.new, Same.trans B2.same C.same, C.at_, C.al, C.ok⟩
      have B3 := B2.step sC
      refine ⟨_, p, _, _, rfl, rfl, B3.at_, C.at_, le_size (by rw [B.al.1, C.al.1]; omega), fun l hl => ?_⟩
      have s9 := Same.new (o := .lst (xs ++ ys)) hl
      exact rest _ _ ⟨l, _, _, rfl, B3.cat C' hl, by rw [List.length_append]; omega, s9 _ _ (sC _ _ (tS _ _ hsv)), s9 _ _ (sC _ _ (tS _ _ hpa))⟩
    subst eσ
    clear hsv hpa B hrl
    have hsv := hsv8
    have hpa := hpa8
    have B := B8
    have hrl := hrl8
    clear hsv8 hpa8 B8 hrl8
    -- the end
    refine seq_join (t := tAsg _ _) (fun σ H' => H8 = H' ∧ ∃ en : Nat, σ = [some (.int z), some (.ref a), some (vi at_), some (.ref sv), some (vi hh), some (vi tu), some (.ref pa), some (.int sp), some (.ref p8), some (vi cu), some (vi en), none, none, none]) (fun σ H' ⟨eH, en, eσ⟩ => ?_) (fun N rest => ?_)
    rotate_left
    · exact ⟨_, rfl, _, rfl, _, _, rfl, .inl (SqL.of B.at_), _, _, rfl, rfl, rest _ _ ⟨rfl, at_ + xs.length, rfl⟩⟩
    subst eH eσ
    -- rows of cells
    refine seq_join (t := tAsg _ _) (fun σ H9 => ∃ (p9 : Addr) (xs9 : List V) (rs9 : List RowD), σ = [some (.int z), some (.ref a), some (vi at_), some (.ref sv), some (vi hh), some (vi tu), some (.ref pa), some (.int sp), some (.ref p9), some (vi cu), some (vi en), none, none, none] ∧ Bd K true H p9 H9 xs9 rs9 ∧ rs9.length ≤ 1 + saved.length + 2 * zs.length + saved.length ∧ H9 sv = some (.lst (ns saved)) ∧ H9 pa = some (.lst (ns pls))) (fun σ H9 ⟨p9, xs, rs, eσ, B9, hrl9, hsv9, hpa9⟩ => ?_) (fun N rest => ?_)
    rotate_left
    · refine ⟨_, rfl, _, rfl, sv, _, rfl, .inl (SqL.of hsv), ((ns saved).length : Int), rfl, by omega, by omega, fun D hD => ?_⟩
      have hD0 := Same.back B.same hD
      refine lc_range (lo := 0) (n := ((ns saved).length : Int).toNat) (fun i H' => ∃ ys ss, Same H8 H' ∧ Bd K true H D H' ys ss ∧ ss.length ≤ i) ⟨[], [], Same.new hD, ⟨hD0, Same.trans B.same (Same.new hD), upd_same, .nil, fun r hr => by cases hr⟩, Nat.le_refl _⟩ (fun i H' hi ⟨ys, ss, sm, C, hsl⟩ => ?_) (fun H' ⟨ys, ss, sm, C, hsl⟩ => ?_)
      · have hi1 : i < saved.length := by omega
        have hi2 : i < pls.length := by omega
        have hb7 : saved.getD (i) 0 ≤ 7 := by
          rw [List.getD_eq_getElem?_getD, List.getElem?_eq_getElem hi1]
          exact h7 _ (List.getElem_mem _)
        have hc4 : pls.getD (i) 0 ≤ 4 := by
          rw [List.getD_eq_getElem?_getD, List.getElem?_eq_getElem hi2]
          exact hp4 _ (List.getElem_mem _)
        refine ⟨rfl, _, rfl, _, rfl, sv, ns saved, _, vi (saved.getD (i) 0), rfl, rfl, SqL.of (sm _ _ hsv), at_nat (j := i) (by omega) (ns_getD hi1), _, rfl, _, rfl, pa, ns pls, _, vi (pls.getD (i) 0), rfl, rfl, SqL.of (sm _ _ hpa), at_nat (j := i) (by omega) (ns_getD hi2), (by show 3 ≤ sizeLine; decide), fun yt hyt => ?_⟩
        have t1 := Same.new (o := .tup [.str "get", vi (saved.getD (i) 0), vi (pls.getD (i) 0)]) hyt
        have C1 := (C.step t1).push (v := .ref yt) (r := .get (saved.getD (i) 0) (pls.getD (i) 0)) (tell_new rfl) ⟨hb7, by omega⟩
        exact ⟨ys, (C.step t1).at_, lt_size (by rw [C.al.1]; omega), _, _, Same.mut (Same.trans sm t1) hD, C1, by simp; omega⟩
      · have B' := B.step sm
        refine ⟨_, D, _, _, rfl, rfl, B'.at_, C.at_, le_size (by rw [B.al.1, C.al.1]; omega), fun l hl => ?_⟩
        have s9 := Same.new (o := .lst (xs ++ ys)) hl
        exact rest _ _ ⟨l, _, _, rfl, B'.cat C hl, by rw [List.length_append]; omega, s9 _ _ (sm _ _ hsv), s9 _ _ (sm _ _ hpa)⟩
    subst eσ
    clear hsv hpa B hrl
    have hsv := hsv9
    have hpa := hpa9
    have B := B9
    have hrl := hrl9
    clear hsv9 hpa9 B9 hrl9
    have hxs := B.al.1
    refine seq_join (t := tIfS _ _ _) (fun σ H' => σ = [some (.int z), some (.ref a), some (vi at_), some (.ref sv), some (vi hh), some (vi tu), some (.ref pa), some (.int sp), some (.ref p9), some (vi cu), some (vi en), none, none, none] ∧ ∃ xs' rs', Bd K true H p9 H' xs' rs' ∧ rs'.length ≤ 20) (fun σ H' ⟨eσ, xs', rs', B', hrl'⟩ => ?_) (fun N rest => ?_)
    rotate_left
    · refine ⟨_, rfl, _, _, rfl, rfl, _, rfl, ?_⟩
      refine ite2 (fun c => ?_) (fun c => rest _ _ ⟨rfl, xs, rs, B, by omega⟩)
      refine ⟨_, rfl, .inl ⟨rfl, _, SqL.of B.at_⟩, _, rfl, (by show 2 ≤ sizeLine; decide), fun yt hyt => ?_⟩
      have t1 := Same.new (o := .tup [.str "shrink", vi hh]) hyt
      have B1 := (B.step t1).push (v := .ref yt) (r := .shrink hh) (tell_new rfl) (by show hh ≤ 5; omega)
      exact ⟨p9, _, _, rfl, rfl, (B.step t1).at_, lt_size (by omega), rest _ _ ⟨rfl, _, _, B1, by rw [List.length_append]; show rs.length + 1 ≤ 20; omega⟩⟩
    subst eσ
    have hxs' := B'.al.1
    refine seq_join (t := tIfS _ _ _) (fun σ H'' => σ = [some (.int z), some (.ref a), some (vi at_), some (.ref sv), some (vi hh), some (vi tu), some (.ref pa), some (.int sp), some (.ref p9), some (vi cu), some (vi en), none, none, none] ∧ ∃ xs2 rs2, Bd K true H p9 H'' xs2 rs2 ∧ rs2.length ≤ 21) (fun σ H'' ⟨eσ, xs2, rs2, B2, hrl2⟩ => ?_) (fun N rest => ?_)
    rotate_left
    · refine ⟨_, rfl, _, _, rfl, rfl, ⟨by decide, by decide⟩, _, _, rfl, rfl, (by show (0 : Int) < 4; decide), rfl, _, rfl, ?_⟩
      refine ite2 (fun c => ?_) (fun c => ?_)
      · obtain ⟨u, hu2, hul⟩ := modN (z.fdiv 1920) (m := 3) (by decide)
        refine ⟨_, rfl, .inl ⟨rfl, _, SqL.of B'.at_⟩, _, rfl, _, rfl, _, _, rfl, rfl, ⟨by decide, by decide⟩, _, _, rfl, rfl, (by show (0 : Int) < 3; decide), _, _, rfl, rfl, (by show 2 ≤ sizeLine; decide), fun yt hyt => ?_⟩
        have t1 := Same.new (o := .tup [.str "jump", .int (-1 - z.fdiv 1920 % 3)]) hyt
        have B1 := (B'.step t1).push (v := .ref yt) (r := .jump u) (tell_new (congrArg (fun i => [V.str "jump", V.int (-1 - i)]) hu2)) (by show u ≤ 2000; omega)
        exact ⟨p9, _, _, rfl, rfl, (B'.step t1).at_, lt_size (by omega), rest _ _ ⟨rfl, _, _, B1, by rw [List.length_append]; show rs'.length + 1 ≤ 21; omega⟩⟩
      · refine ⟨_, rfl, .inl ⟨rfl, _, SqL.of B'.at_⟩, (by show 2 ≤ sizeLine; decide), fun yt hyt => ?_⟩
        have t1 := Same.new (o := .tup [.str "back", .int 7]) hyt
        have B1 := (B'.step t1).push (v := .ref yt) (r := .back 7) (tell_new rfl) (by show 7 ≤ 7; omega)
        exact ⟨p9, _, _, rfl, rfl, (B'.step t1).at_, lt_size (by omega), rest _ _ ⟨rfl, _, _, B1, by rw [List.length_append]; show rs'.length + 1 ≤ 21; omega⟩⟩
    subst eσ
    refine ⟨_, rfl, _, rfl, (by show 2 ≤ sizeLine; decide), fun tt htt => ?_⟩
    exact k _ tt p9 xs2 rs2 en upd_same (B2.step (Same.new htt)) hrl2
end
end Fb

set_option Elab.async false
set_option linter.all false
set_option maxRecDepth 100000
set_option maxHeartbeats 4000000
namespace Fb
open PySem PySem.Spec PyProof.Rows L2
open He (ga ma)
def wordOf : RowD → Str
  | .set _ _ => "set"
  | .copy _ _ => "copy"
  | .add _ _ _ => "add"
  | .grow _ => "grow"
  | .shrink _ => "shrink"
  | .put _ _ => "put"
  | .get _ _ => "get"
  | .jump _ => "jump"
  | .branch _ _ => "branch"
  | .call _ => "call"
  | .back _ => "back"
  | .drop _ => "drop"
theorem word_at (neg : Bool) (r : RowD) : atI (tupOf neg r) 0 = some (.str (wordOf r)) := by cases r <;> rfl
def isCJ : RowD → Bool
  | .call _ => true
  | .jump _ => true
  | _ => false
theorem inV_cj (r : RowD) : inV (.str (wordOf r)) [.str "call", .str "jump"] = isCJ r := by cases r <;> rfl
theorem cj_ex {r : RowD} (h : isCJ r = true) : (∃ t, r = .call t) ∨ ∃ t, r = .jump t := by
  cases r with
  | call t => exact .inl ⟨t, rfl⟩
  | jump t => exact .inr ⟨t, rfl⟩
  | _ => cases h
theorem cj_same {r : RowD} (h : isCJ r = false) : tupOf true r = tupOf false r := by
  cases r with
  | call t => cases h
  | jump t => cases h
  | _ => rfl
section
variable {P : Program} {w : World} {K : PySem.W.Frag} {mg : Str → Option Value} {base : Heap}
theorem Bd.updL {neg : Bool} {H0 H : Hp} {p q : Addr} {xs ys zs : List V} {rs : List RowD} (B : Bd K neg H0 p H xs rs) (hq : H q = some (.lst ys)) (ne : p ≠ q) (h0 : H0 q = none) : Bd K neg H0 p (upd H q (.lst zs)) xs rs :=
  ⟨B.new, Same.mut B.same h0, by rw [upd_ne ne]; exact B.at_, B.al.imp fun _ _ => tell_updL hq, B.ok⟩
theorem Bd.updD {neg : Bool} {H0 H : Hp} {p q : Addr} {xs : List V} {ys zs : List (Key × V)} {rs : List RowD} (B : Bd K neg H0 p H xs rs) (hq : H q = some (.dK ys)) (h0 : H0 q = none) : Bd K neg H0 p (upd H q (.dK zs)) xs rs :=
  ⟨B.new, Same.mut B.same h0, by rw [upd_ne (ne_of B.at_ hq (by intro z; cases z))]; exact B.at_, B.al.imp fun _ _ => tell_updD hq, B.ok⟩
theorem r_law_code (T : Tx K mg) : FnR P w K mg base CX0 3 (ga K "_law_code") (spCode K) := by
  refine fnr0 T.F_law_code sc_law_code (fun vs H Q E h => ?_) hb_law_code (fun cdv A outer s H vs Q E hr h => ?_)
  · obtain ⟨a, zs, rfl, _⟩ := h
    rfl
  · obtain ⟨a, zs, rfl, hs, hz, k⟩ := h
    have hu := hu_of hr
    refine ⟨_, pss_cons (ps_set (i := 1) sc_law_code.nd rfl (.inl rfl) (pe_op op_add pe_int (pe_op op_mod (pe_f (r_cell_at T) (hr.mono (by decide)) rfl T.gl_law_cell_at T.kp_law_cell_at pass0 (pa_cons (pv 0) (pa_cons pe_int pa_nil))) pe_int)))
      (pss_cons (ps_set (i := 2) sc_law_code.nd rfl (.inl rfl) (pe_lst pa_nil))
      (pss_cons (ps_set (i := 3) sc_law_code.nd rfl (.inl rfl) (pe_lst pa_nil))
      (pss_cons (ps_set (i := 4) sc_law_code.nd rfl (.inl rfl) pe_dnewK)
      (pss_cons (ps_for PassesOwn.never rfl (pi_range1 rfl T.fr_range (pa_cons (pv 1) pa_nil)) (pg_name (i := 5) sc_law_code.nd rfl (.inl rfl))
        (pss_cons (ps_expr (pe_bm PySem.F.plainAttrs_list PySem.F.slot_list_append PySem.F.type_list_append mt_append (pv 3) (pa_cons (pe_callB call_len_seq rfl T.fr_len (by decide +kernel) (pa_cons (pv 2) pa_nil)) pa_nil)))
        (pss_cons (ps_asg (pe_f (r_law_function T) hr rfl T.gl_law_function T.kp_law_function pass0 (pa_cons (pe_f (r_cell_at T) (hr.mono (by decide)) rfl T.gl_law_cell_at T.kp_law_cell_at pass0 (pa_cons (pv 0) (pa_cons (pe_op op_add pe_int (pe_op op_mul pe_int (pv 5))) pa_nil)))
              (pa_cons (pe_slice sl_list (pv 0) (po_some (pe_op op_add pe_int (pe_op op_mul pe_int (pv 5)))) (po_some (pe_op op_add pe_int (pe_op op_mul pe_int (pv 5))))) (pa_cons (pe_callB call_len_seq rfl T.fr_len (by decide +kernel) (pa_cons (pv 2) pa_nil)) pa_nil))))
            (pg_tup rfl (pgs_cons (pg_name (i := 6) sc_law_code.nd rfl (.inl rfl)) (pgs_cons (pg_name (i := 7) sc_law_code.nd rfl (.inl rfl)) pgs_nil))))
        (pss_cons (ps_for PassesOwn.never rfl (pi_range1 rfl T.fr_range (pa_cons (pe_callB call_len_seq rfl T.fr_len (by decide +kernel) (pa_cons (pv 6) pa_nil)) pa_nil)) (pg_name (i := 8) sc_law_code.nd rfl (.inl rfl))
          (pss_cons (ps_set (i := 9) sc_law_code.nd rfl (.inl rfl) (pe_op op_mod (pe_op op_fdivN (pe_f (r_cell_at T) (hr.mono (by decide)) rfl T.gl_law_cell_at T.kp_law_cell_at pass0 (pa_cons (pv 0) (pa_cons (pe_op op_add pe_int (pv 5)) pa_nil))) (pe_op op_add pe_int (pe_op op_mul pe_int (pv 8)))) pe_int))
          (pss_one (ps_if (PW.pt (pw_and (pt_cmpR op_eq (pe_ix ix_tup (pe_ix ix_list (pv 6) (pv 8) (fun _ _ => rfl)) pe_int (fun _ _ => rfl)) pe_str (nomark _)) (pw_and1 (pt_cmpR op_gt (pv 9) pe_int (nomark _)))))
            (pss_one (ps_dput hu (pv 4) (pe_op op_add (pe_callB call_len_seq rfl T.fr_len (by decide +kernel) (pa_cons (pv 2) pa_nil)) (pv 8))
              (pe_ix ix_list (pe_lst (pa_cons pe_int (pa_cons (pe_op op_add (pe_op op_add (pe_callB call_len_seq rfl T.fr_len (by decide +kernel) (pa_cons (pv 2) pa_nil)) (pv 8)) pe_int) (pa_cons (pv 7) (pa_cons (pv 7) pa_nil))))) (pv 9) (fun _ _ => rfl)) rfl)) pss_nil))))
        (pss_one (ps_set (i := 2) sc_law_code.nd rfl (.inl rfl) (pe_op op_cat (pv 2) (pv 6))))))))
      (pss_cons (ps_set (i := 10) sc_law_code.nd rfl (.inl rfl) (pe_lst pa_nil))
      (pss_cons (ps_for PassesOwn.never rfl (pi_list (pv 2)) (pg_name (i := 11) sc_law_code.nd rfl (.inl rfl))
        (pss_cons (ps_if (pt_cmpR op_in_seq (pe_ix ix_tup (pv 11) pe_int (fun _ _ => rfl)) (pe_lst (pa_cons pe_str (pa_cons pe_str pa_nil))) (by rfl))
          (pss_one (ps_set (i := 11) sc_law_code.nd rfl (.inl rfl) (pe_tup (pa_cons (pe_ix ix_tup (pv 11) pe_int (fun _ _ => rfl)) (pa_cons (pe_ix ix_list (pv 3) (pe_op op_mod (pe_op op_sub (pe_un un_neg pe_int) (pe_ix ix_tup (pv 11) pe_int (fun _ _ => rfl))) (pv 1)) (fun _ _ => rfl)) pa_nil))))) pss_nil)
        (pss_one (ps_expr (pe_bm PySem.F.plainAttrs_list PySem.F.slot_list_append PySem.F.type_list_append mt_append (pv 10) (pa_cons (pv 11) pa_nil))))))
      (pss_one (ps_ret (pe_tup (pa_cons (pv 10) (pa_cons (pv 4) pa_nil))))))))))), ?_⟩
    refine seq_join (t := tAsg _ _) (fun σ H2 => H = H2 ∧ ∃ many : Nat, 0 < many ∧ many ≤ 3 ∧ σ = [some (.ref a), some (vi many), none, none, none, none, none, none, none, none, none, none]) (fun σ H2 ⟨eH, many, h0, h3, eσ⟩ => ?_) (fun N rest => ?_)
    rotate_left
    · refine ⟨_, rfl, a, zs, 0, rfl, by omega, hs, fun z => ?_⟩
      obtain ⟨n, hn, hlt⟩ := modN z (m := 3) (by decide)
      refine ⟨_, _, rfl, rfl, (by show (0 : Int) < 3; decide), _, _, rfl, rfl, rest _ _ ⟨rfl, 1 + n, by omega, by omega, ?_⟩⟩
      show [_, some (V.int (1 + z % 3)), _, _, _, _, _, _, _, _, _, _] = _
      rw [show (1 + z % 3 : Int) = ((1 + n : Nat) : Int) by have : z % 3 = (n : Int) := hn; omega]
      rfl
    subst eH eσ
    refine ⟨(by show 0 ≤ sizeLine; decide), fun p0 hp0 => ?_⟩
    have B0 : Bd K true H p0 (upd H p0 (.lst [])) [] [] := ⟨hp0, Same.new hp0, upd_same, .nil, fun r hr => by cases hr⟩
    refine ⟨(by show 0 ≤ sizeLine; decide), fun st hst => ?_⟩
    have t1 := Same.new (o := .lst []) hst
    have hst0 := Same.back B0.same hst
    have nps : p0 ≠ st := ne_of_none B0.at_ hst
    refine fun d hd => ?_
    have t2 := Same.new (o := .dK []) hd
    have B0 := (B0.step t1).step t2
    have hd0 : H d = none := Same.back (Same.trans (Same.new hp0) t1) hd
    dsimp only [gName, tNext]
    refine seq_join (t := tFor _ _ _) (fun σ H' => ∃ (p : Addr) (xs : List V) (rs : List RowD) (sts : List Nat) (ls : List (Nat × Nat)) (s5 s6 s7 s8 s9 : Option V), σ = [some (.ref a), some (vi many), some (.ref p), some (.ref st), some (.ref d), s5, s6, s7, s8, s9, none, none] ∧ Bd K true H p H' xs rs ∧ rs.length ≤ 63 ∧ p ≠ st ∧ H' st = some (.lst (ns sts)) ∧ sts.length = many ∧ (∀ s ∈ sts, s ≤ 63) ∧ H' d = some (.dK (lsV ls)) ∧ ls.length < 64) (fun σ H' hinv => ?_) (fun N rest => ?_)
    rotate_left
    · refine ⟨_, rfl, (many : Int), rfl, by omega, by omega, ?_⟩
      refine for_range (lo := 0) (n := many) (fun n σ H' => ∃ (p : Addr) (xs : List V) (rs : List RowD) (sts : List Nat) (ls : List (Nat × Nat)) (s5 s6 s7 s8 s9 : Option V), σ = [some (.ref a), some (vi many), some (.ref p), some (.ref st), some (.ref d), s5, s6, s7, s8, s9, none, none] ∧ Bd K true H p H' xs rs ∧ rs.length ≤ 21 * n ∧ p ≠ st ∧ H' st = some (.lst (ns sts)) ∧ sts.length = n ∧ (∀ s ∈ sts, s ≤ 63) ∧ H' d = some (.dK (lsV ls)) ∧ ls.length ≤ 21 * n)
        ⟨p0, [], [], [], [], none, none, none, none, none, rfl, B0, Nat.le_refl _, nps, t2 _ _ upd_same, rfl, (fun s hs => by cases hs), upd_same, Nat.le_refl _⟩ (fun n σ H' hn ⟨p, xs, rs, sts, ls, s5, s6, s7, s8, s9, eσ, B, hrl, hne, hsts, hstl, hst63, hdd, hll⟩ => ?_) (fun σ H' ⟨p, xs, rs, sts, ls, s5, s6, s7, s8, s9, eσ, B, hrl, hne, hsts, hstl, hst63, hdd, hll⟩ => rest _ _ ⟨p, xs, rs, sts, ls, s5, s6, s7, s8, s9, eσ, B, by omega, hne, hsts, hstl, hst63, hdd, by omega⟩)
      subst eσ
      have hxs := B.al.1
      -- starts
      refine ⟨_, rfl, .inl ⟨rfl, _, SqL.of hsts⟩, _, rfl, p, _, rfl, .inl (SqL.of B.at_), st, _, _, rfl, rfl, hsts, lt_size (by rw [List.length_map]; omega), ?_⟩
      have B1 := B.updL (zs := ns sts ++ [.int (xs.length : Int)]) hsts hne hst0
      have hsts1 : upd H' st (.lst (ns sts ++ [.int (xs.length : Int)])) st = some (.lst (ns (sts ++ [xs.length]))) := by
        rw [upd_same]
        simp [ns]
        rfl
      have hdd1 : upd H' st (.lst (ns sts ++ [.int (xs.length : Int)])) d = some (.dK (lsV ls)) := by
        rw [upd_ne (ne_of hdd hsts (by intro z; cases z))]
        exact hdd
      have hst63' : ∀ s ∈ sts ++ [xs.length], s ≤ 63 := fun s hs' => by
        rcases List.mem_append.mp hs' with h | h
        · exact hst63 s h
        · rw [List.mem_singleton.mp h]
          omega
      have sm1 := B1.same
      clear B hsts hdd
      -- the part
      obtain ⟨zs', hz1, hz2⟩ := cutI zs (13 + 6 * n) (18 + 6 * n)
      refine ⟨_, rfl, _, rfl, _, _, rfl, rfl, .inl ⟨by decide, by decide⟩, _, _, rfl, rfl, a, zs, _, rfl, (by show (0 : Int) ≤ 12 + 6 * (0 + (n : Int)); omega), Same.seqL sm1 hs, fun z => ?_⟩
      refine ⟨_, rfl, _, rfl, _, _, rfl, rfl, .inl ⟨by decide, by decide⟩, _, _, rfl, rfl, _, rfl, _, rfl, _, _, rfl, rfl, .inl ⟨by decide, by decide⟩, _, _, rfl, rfl, _, rfl, a, _, rfl, Same.seqL sm1 hs, fun l1 hl1 => ?_⟩
      have e1 : cutV (zs.map V.int) (some (13 + 6 * (0 + (n : Int)))) (some (18 + 6 * (0 + (n : Int)))) = zs'.map V.int := by
        rw [show (13 + 6 * (0 + (n : Int))) = ((13 + 6 * n : Nat) : Int) by omega, show (18 + 6 * (0 + (n : Int))) = ((18 + 6 * n : Nat) : Int) by omega]
        exact hz1
      have u1 := Same.new (o := .lst (cutV (zs.map V.int) (some (13 + 6 * (0 + (n : Int)))) (some (18 + 6 * (0 + (n : Int)))))) hl1
      have B2 := B1.step u1
      refine ⟨_, rfl, p, _, rfl, .inl (SqL.of B2.at_), z, l1, xs.length, zs', rfl, by rw [← e1]; exact upd_same, by omega, by omega, fun H3 tt q ys ss en htt C hsl => ?_⟩
      have u3 := C.same
      have hqn := C.new
      have C : Bd K true H q H3 ys ss := ⟨Same.back B2.same C.new, Same.trans B2.same C.same, C.at_, C.al, C.ok⟩
      have nqs : q ≠ st := Ne.symm (ne_of_none (u1 _ _ hsts1) hqn)
      refine ⟨tt, _, rfl, SqT.of htt, rfl, _, _, rfl, _, _, rfl, rfl, ?_⟩
      have B3 := B2.step u3
      have hsts3 := u3 _ _ (u1 _ _ hsts1)
      have hdd3 := u3 _ _ (u1 _ _ hdd1)
      have hyl := C.al.1
      refine ⟨_, rfl, q, _, rfl, .inl (SqL.of C.at_), (ys.length : Int), rfl, by omega, by omega, ?_⟩
      refine for_range (lo := 0) (n := ys.length) (fun i σ H' => ∃ (ls' : List (Nat × Nat)) (sj sw : Option V), σ = [some (.ref a), some (vi many), some (.ref p), some (.ref st), some (.ref d), some (.int (0 + (n : Int))), some (.ref q), some (vi en), sj, sw, none, none] ∧ Bd K true H p H' xs rs ∧ Bd K true H q H' ys ss ∧ H' st = some (.lst (ns (sts ++ [xs.length]))) ∧ H' d = some (.dK (lsV ls')) ∧ ls'.length ≤ ls.length + i)
        ⟨ls, s8, s9, rfl, B3, C, hsts3, hdd3, Nat.le_refl _⟩ (fun i σ H' hi ⟨ls', sj, sw, eσ, B, C, hsts, hdd, hll'⟩ => ?_) (fun σ H' ⟨ls', sj, sw, eσ, B, C, hsts, hdd, hll'⟩ => ?_)
      · subst eσ
        refine seq_join (t := tAsg _ _) (fun σ H2 => H' = H2 ∧ ∃ w : Nat, w < 4 ∧ σ = [some (.ref a), some (vi many), some (.ref p), some (.ref st), some (.ref d), some (.int (0 + (n : Int))), some (.ref q), some (vi en), some (.int (0 + (i : Int))), some (vi w), none, none]) (fun σ H2 ⟨eH, w, hw, eσ⟩ => ?_) (fun N rest => ?_)
        rotate_left
        · refine ⟨_, rfl, _, rfl, _, _, rfl, rfl, a, zs, _, rfl, (by show (0 : Int) ≤ 30 + (0 + (n : Int)); omega), Same.seqL B.same hs, fun z2 => ?_⟩
          obtain ⟨m, hm, hml⟩ := modN (z2.fdiv (1 + 5 * (0 + (i : Int)))) (m := 4) (by decide)
          exact ⟨_, rfl, _, _, rfl, rfl, .inl ⟨by decide, by decide⟩, _, _, rfl, rfl, _, _, rfl, rfl, ⟨by show (1 + 5 * (0 + (i : Int))) ≠ 0; omega, by show (1 + 5 * (0 + (i : Int))).natAbs < 1073741824; omega⟩, _, _, rfl, rfl, (by show (0 : Int) < 4; decide), rest _ _ ⟨rfl, m, hml, congrArg (fun q' => [some (.ref a), some (vi many), some (.ref p), some (.ref st), some (.ref d), some (.int (0 + (n : Int))), some (.ref q), some (vi en), some (.int (0 + (i : Int))), some (V.int q'), none, none]) hm⟩⟩
        subst eH eσ
        have hir : i < ss.length := by omega
        have hri : ss[i]? = some ss[i] := List.getElem?_eq_getElem hir
        obtain ⟨v, hv, ta, rfl, hta⟩ := C.al.2 i _ hri
        refine ⟨_, rfl, _, rfl, q, ys, _, _, rfl, rfl, SqL.of C.at_, at_nat (j := i) (by omega) hv, ta, _, _, _, rfl, rfl, hta, word_at true _, rfl, _, rfl, ?_⟩
        have skip : ∃ (ls' : List (Nat × Nat)) (sj sw : Option V), [some (V.ref a), some (vi many), some (.ref p), some (.ref st), some (.ref d), some (.int (0 + (n : Int))), some (.ref q), some (vi en), some (.int (0 + (i : Int))), some (vi w), none, none] = [some (.ref a), some (vi many), some (.ref p), some (.ref st), some (.ref d), some (.int (0 + (n : Int))), some (.ref q), some (vi en), sj, sw, none, none] ∧ Bd K true H p H' xs rs ∧ Bd K true H q H' ys ss ∧ H' st = some (.lst (ns (sts ++ [xs.length]))) ∧ H' d = some (.dK (lsV ls')) ∧ ls'.length ≤ ls.length + (i + 1) := ⟨ls', _, _, rfl, B, C, hsts, hdd, by omega⟩
        refine ite2 (fun c => ?_) (fun c => skip)
        refine ⟨_, rfl, _, _, rfl, rfl, _, rfl, ?_⟩
        refine ite2 (fun c => ?_) (fun c => skip)
        refine ⟨_, rfl, p, _, rfl, .inl (SqL.of B.at_), _, rfl, _, _, rfl, rfl, _, _, rfl, rfl, _, rfl, _, rfl, (by show 4 ≤ sizeLine; decide), fun l hl => ?_⟩
        have tl := Same.new (o := .lst (ns [0, xs.length + (0 + i) + 1, en, en])) hl
        have B' := B.step tl
        have C' := C.step tl
        have hdd' := tl _ _ hdd
        refine ⟨_, rfl, l, ns [0, xs.length + (0 + i) + 1, en, en], _, _, rfl, rfl, SqL.of upd_same, atN (bs := [0, xs.length + (0 + i) + 1, en, en]) (i := w) hw, _, rfl, _, rfl, p, _, rfl, .inl (SqL.of B'.at_), _, rfl, _, _, rfl, rfl, d, _, rfl, DPut.k (k := Sum.inl ((xs.length + (0 + i) : Nat) : Int)) hdd' (lt_size (by unfold lsV; rw [List.length_map]; omega)), ?_⟩
        have e5 := putK_ls ls' (xs.length + (0 + i)) (([0, xs.length + (0 + i) + 1, en, en] : List Nat).getD w 0)
        refine ⟨putL ls' (xs.length + (0 + i)) (([0, xs.length + (0 + i) + 1, en, en] : List Nat).getD w 0), _, _, rfl, B'.updD hdd' hd0, C'.updD hdd' hd0, ?_, ?_, by have := putL_length ls' (xs.length + (0 + i)) (([0, xs.length + (0 + i) + 1, en, en] : List Nat).getD w 0); omega⟩
        · rw [upd_ne (ne_of (tl _ _ hsts) hdd' (by intro z; cases z))]
          exact tl _ _ hsts
        · rw [upd_same, e5]
      · subst eσ
        refine ⟨_, rfl, _, rfl, p, q, xs, ys, rfl, rfl, B.at_, C.at_, le_size (by omega), fun l hl => ?_⟩
        have tl := Same.new (o := .lst (xs ++ ys)) hl
        exact ⟨l, _, _, sts ++ [xs.length], ls', _, _, _, _, _, rfl, B.cat C hl, by rw [List.length_append]; omega, Ne.symm (ne_of_none hsts hl), tl _ _ hsts, by simp [hstl], hst63', tl _ _ hdd, by omega⟩
    obtain ⟨p, xs, rs, sts, ls, s5, s6, s7, s8, s9, rfl, B, hrl, hne, hsts, hstl, hst63, hdd, hll⟩ := hinv
    have hxs := B.al.1
    refine ⟨(by show 0 ≤ sizeLine; decide), fun fo hfo => ?_⟩
    have F0 : Bd K false H' fo (upd H' fo (.lst [])) [] [] := ⟨hfo, Same.new hfo, upd_same, .nil, fun r hr => by cases hr⟩
    refine ⟨_, rfl, p, rfl, ⟨_, SqL.of (F0.same _ _ B.at_)⟩, ?_⟩
    refine for_list (K := K) (a := p) (xs := xs) (fun n σ H2 => ∃ (fx : List V) (fr : List RowD) (s11 : Option V), σ = [some (.ref a), some (vi many), some (.ref p), some (.ref st), some (.ref d), s5, s6, s7, s8, s9, some (.ref fo), s11] ∧ Bd K false H' fo H2 fx fr ∧ fr.length = n) ⟨[], [], none, rfl, F0, rfl⟩ (fun n σ H2 _ ⟨_, _, _, _, F, _⟩ => SqL.of (F.same _ _ B.at_)) (fun n x σ H2 hxn ⟨fx, fr, s11, eσ, F, hfl⟩ => ?_) (fun σ H2 ⟨fx, fr, s11, eσ, F, hfl⟩ => ?_)
    · subst eσ
      have hn := (List.getElem?_eq_some_iff.mp hxn).1
      obtain ⟨r, hr', ta, rfl, hta⟩ := B.al.back hxn
      have hta := (Same.kp F.same).seqT hta
      have hrok := B.ok r (List.mem_of_getElem? hr')
      have hfx := F.al.1
      refine seq_join (t := tIfS _ _ _) (fun σ H3 => ∃ (u : V) (r' : RowD), σ = [some (.ref a), some (vi many), some (.ref p), some (.ref st), some (.ref d), s5, s6, s7, s8, s9, some (.ref fo), some u] ∧ Same H2 H3 ∧ TellV K false H3 u r' ∧ r'.ok) (fun σ H3 ⟨u, r', eσ, s3, hu3, hr3⟩ => ?_) (fun N rest => ?_)
      · subst eσ
        have F3 := F.step s3
        refine ⟨_, rfl, .inl ⟨rfl, _, SqL.of F3.at_⟩, _, rfl, fo, _, _, rfl, rfl, F3.at_, lt_size (by omega), ?_⟩
        exact ⟨_, _, _, rfl, F3.push hu3 hr3, by simp [hfl]⟩
      · refine ⟨_, rfl, ta, _, _, _, rfl, rfl, hta, word_at true r, (by show 2 ≤ sizeLine; decide), fun l hl => ?_⟩
        have tl := Same.new (o := .lst [.str "call", .str "jump"]) hl
        have hta' := (Same.kp tl).seqT hta
        refine ⟨l, _, rfl, .inl (SqL.of upd_same), rfl, rfl, _, rfl, ?_⟩
        rw [show inV (V.str (wordOf r)) [V.str "call", V.str "jump"] = isCJ r from inV_cj r]
        cases hcj : isCJ r with
        | false =>
          refine iteF (rest _ _ ⟨.ref ta, r, rfl, tl, ⟨ta, rfl, ?_⟩, hrok⟩)
          rw [← cj_same hcj]
          exact hta'
        | true =>
          have hsts2 := tl _ _ (F.same _ _ hsts)
          have go : ∀ t : Nat, ∃ m : Nat, m < many ∧ (-1 - (-1 - (t : Int))) % (many : Int) = (m : Int) := fun t => by
            obtain ⟨m, h1, h2⟩ := modN (-1 - (-1 - (t : Int))) (m := many) h0
            exact ⟨m, h2, h1⟩
          have le63 : ∀ m, m < many → sts.getD m 0 ≤ 2000 := fun m hm => by
            rw [List.getD_eq_getElem?_getD, List.getElem?_eq_getElem (show m < sts.length by omega)]
            have := hst63 _ (List.getElem_mem (show m < sts.length by omega))
            show sts[m] ≤ 2000
            omega
          rcases cj_ex hcj with ⟨t, rfl⟩ | ⟨t, rfl⟩
          · obtain ⟨m, hml, hm⟩ := go t
            refine iteT ⟨_, rfl, ta, _, _, .str "call", rfl, rfl, hta', rfl, _, rfl, _, rfl, _, rfl, ta, _, _, .int (-1 - (t : Int)), rfl, rfl, hta', rfl, _, _, rfl, rfl, _, rfl, _, _, rfl, rfl, (by show (0 : Int) < (many : Int); omega), st, ns sts, (-1 - (-1 - (t : Int))) % (many : Int), vi (sts.getD m 0), rfl, rfl, SqL.of hsts2, at_nat hm (ns_getD (by omega)), (by show 2 ≤ sizeLine; decide), fun y hy => ?_⟩
            exact rest _ _ ⟨.ref y, .call (sts.getD m 0), rfl, Same.trans tl (Same.new hy), tell_new rfl, le63 m hml⟩
          · obtain ⟨m, hml, hm⟩ := go t
            refine iteT ⟨_, rfl, ta, _, _, .str "jump", rfl, rfl, hta', rfl, _, rfl, _, rfl, _, rfl, ta, _, _, .int (-1 - (t : Int)), rfl, rfl, hta', rfl, _, _, rfl, rfl, _, rfl, _, _, rfl, rfl, (by show (0 : Int) < (many : Int); omega), st, ns sts, (-1 - (-1 - (t : Int))) % (many : Int), vi (sts.getD m 0), rfl, rfl, SqL.of hsts2, at_nat hm (ns_getD (by omega)), (by show 2 ≤ sizeLine; decide), fun y hy => ?_⟩
            exact rest _ _ ⟨.ref y, .jump (sts.getD m 0), rfl, Same.trans tl (Same.new hy), tell_new rfl, le63 m hml⟩
    · subst eσ
      refine ⟨_, rfl, _, rfl, (by show 2 ≤ sizeLine; decide), fun tt htt => ?_⟩
      have tl := Same.new (o := .tup [.ref fo, .ref d]) htt
      have F3 := F.step tl
      exact k _ tt fo d fx fr ls (Same.trans B.same F3.same) upd_same F3.at_ F3.al F3.ok (by omega) (F3.same _ _ hdd) hll
end
end Fb

set_option Elab.async false
set_option linter.all false
set_option maxRecDepth 100000
set_option maxHeartbeats 4000000
namespace Fb
open PySem PySem.Spec PyProof.Rows L2
open He (ga ma)
/-! ### a call whose exceptions are wished for at the slots -/
section
variable {X : Cx} {CX : CXT} {k : Nat} {f : Addr} {sp : Sp} {E : L2.St → XK} {x : Str} {p pos : Pos} {e : Expr} {es : List Expr} {t : TA}
def tFS (sp : Sp) (E : L2.St → XK) (t : TA) : TE := fun σ H Q => t σ H fun vs H1 => sp vs H1 Q (E σ)
theorem pe_fS (F : FnR X.prog X.w X.K X.mg X.base CX k f sp) (hr : Room k X.A) (hg : Gl X x) (hm : X.mg x = some (.ref f)) (hk : PySem.W.keepIn X.K (.ref f) = true) (hx : ∀ σ, PassesAt CX X σ (E σ))
    (ha : PA X (e :: es) t) (hdb : (x == ("__debug__" : Str)) = false := by decide) (he : starEach (e :: es) X.env = (false, eval e X.env) :: starEach es X.env := by rfl) (hpl : (backTo pos (starEach es X.env)).any (·.1) = false := by rfl) :
    PE X (.Call (.Name x p) (e :: es) [] pos) (tFS sp E t) := by
  refine ⟨fun pins s σ H Q I h => ?_⟩
  refine wpAny_Call_Name_kw (ld_glob I hg hm ?_ hdb)
  refine PySem.W.callWith_K (h₀ := X.base) I.ok.mod.kin hk (thn (ha.run pos pins s σ H _ I h) fun us s1 ⟨vs, H1, I1, r, q⟩ => ⟨I1.kIn, ?_⟩) he hpl
  refine wpAny_call (codeAny_mono (F X.A X.stack s1 H1 us vs Q (E σ) hr I1.env0 r q) fun r s' hq => ?_)
  cases r with
  | error e => exact hx σ pins H1 s1 e s' I1 hq
  | ok fl =>
    cases fl with
    | ret u => exact I1.after hq
    | next => exact False.elim hq
    | brk => exact False.elim hq
    | cont => exact False.elim hq
end
/-! ### lists of numbers as data -/
def ndD (l : List Nat) : List PyData := l.map fun (n : Nat) => PyData.int (n : Int)
theorem nd_can : ∀ l : List Nat, PyData.canLayAll0 (ndD l) = true
  | [] => rfl
  | n :: l => by
    show (PyData.canLay0 (.int (n : Int)) && PyData.canLayAll0 (ndD l)) = true
    rw [nd_can l]
    rfl
theorem nd_depth : ∀ l : List Nat, PyData.depthAll (ndD l) = 0
  | [] => rfl
  | n :: l => by
    show max (PyData.depth (.int (n : Int))) (PyData.depthAll (ndD l)) = 0
    rw [nd_depth l]
    rfl
theorem nd_shapedL (l : List Nat) : SeqAt.shaped (.list (ndD l)) = true := by
  show (PyData.canLayAll0 (ndD l) && decide (PyData.depthAll (ndD l) + 1 ≤ 64)) = true
  rw [nd_can, nd_depth]
  rfl
theorem nd_shapedT (l : List Nat) : SeqAt.shaped (.tuple (ndD l)) = true := by
  show (PyData.canLayAll0 (ndD l) && decide (PyData.depthAll (ndD l) + 1 ≤ 64)) = true
  rw [nd_can, nd_depth]
  rfl
theorem nd_dp {K : PySem.W.Frag} {H : Hp} : ∀ l : List Nat, DpAll K H (ns l) (ndD l)
  | [] => .nil
  | n :: l => .cons (.int _) (nd_dp l)
theorem nd_eqvL (l : List Nat) : PyData.eqv (.list (ndD l)) (.list (ndD l)) = true := SeqAt.eqv_refl _ (nd_can l)
theorem nd_eqvT (l : List Nat) : PyData.eqv (.tuple (ndD l)) (.tuple (ndD l)) = true := SeqAt.eqv_refl _ (nd_can l)
section
variable {P : Program} {w : World} {K : PySem.W.Frag} {mg : Str → Option Value} {base : Heap}
/-! ### the table that guess tells, or None -/
def spLTable (K : PySem.W.Frag) : Sp := fun vs H Q _ => ∃ (c d : Addr) (rs : List RowD) (ls : List (Nat × Nat)), vs = [.ref c, .ref d] ∧ CodeAt K H c rs ∧ (∀ (i : Nat) (r : RowD), rs[i]? = some r → r.ok) ∧ rs.length ≤ 1000 ∧ ls.length < 64 ∧ H d = some (.dK (lsV ls)) ∧
  (∀ H', Same H H' → Q .non H') ∧ ∀ H' tb es, Same H H' → TabAt K H' tb es ls → Q (.ref tb) H'
theorem r_law_table (T : Tx K mg) : FnR P w K mg base CX0 8 (ga K "_law_table") (spLTable K) := by
  refine fnr0 T.F_law_table sc_law_table (fun vs H Q E h => ?_) hb_law_table (fun cdv A outer s H vs Q E hr h => ?_)
  · obtain ⟨c, d, rs, ls, rfl, _⟩ := h
    rfl
  · obtain ⟨c, d, rs, ls, rfl, hcode, hok, hfew, hls, hd, k0, k1⟩ := h
    refine ⟨_, pss_cons (ps_set (i := 2) sc_law_table.nd rfl (.inl rfl) pe_non)
      (pss_cons (ps_try_only (tb := fun W => tAsg (tFS (spGuess K) (WE W) (tCons (tVar 0) (tCons (tVar 1) tNil))) (gName 2)) (ts := fun _ _ _ => tAsg (tC .non) (gName 2)) (Wout := fun _ _ _ _ => False) rfl rfl ⟨rfl, by decide, Or.inl T.gl_NoTable⟩ takes0
        (fun W pn xe tk _ => pss_one (ps_set (i := 2) sc_law_table.nd rfl (.inl rfl) (pe_fS (r_guess T) hr rfl T.gl_guess T.kp_guess (fun σ => passAt tk σ) (pa_cons (pv 0) (pa_cons (pv 1) pa_nil)))))
        (fun a oe cls d pn _ _ => pss_one (ps_set (i := 2) sc_law_table.nd rfl (.inl rfl) pe_non)))
      (pss_one (ps_ret (pv 2)))), ?_⟩
    refine ⟨_, rfl, _, rfl, c, d, rs, ls, rfl, hcode, hok, hfew, hls, hd, fun H' sm => ⟨true, T.em_NoTable, fun _ a ha => ⟨_, rfl, k0 _ sm⟩, fun q => nomatch q⟩, fun H' tb es sm _ ht => ⟨_, rfl, k1 _ tb es sm ht⟩⟩
/-! ### the law's own book of calls -/
def CallV (H : Hp) (v : V) (c : CallD) : Prop := ∃ t kt pl, v = .ref t ∧ H t = some (.tup [vi c.1, .ref kt, .ref pl]) ∧ H kt = some (.tup (ns [c.2.1.1, c.2.1.2.1, c.2.1.2.2])) ∧ H pl = some (.lst (ns c.2.2))
theorem Kp.callV {H H' : Hp} {v : V} {c : CallD} (k : Kp H H') (h : CallV H v c) : CallV H' v c := let ⟨t, kt, pl, a, b, c, d⟩ := h; ⟨t, kt, pl, a, k.tup b, k.tup c, k.lst d⟩
def BookAt (H : Hp) (cl : Addr) (calls : List CallD) : Prop := ∃ xs, H cl = some (.lst xs) ∧ Al (CallV H) xs calls
theorem Kp.book {H H' : Hp} {cl : Addr} {calls : List CallD} (k : Kp H H') (h : BookAt H cl calls) : BookAt H' cl calls := let ⟨xs, a, b⟩ := h; ⟨xs, k.lst a, b.imp fun _ _ => k.callV⟩
def landI (ls : List (Nat × Nat)) (calls : List CallD) : Int := match firstLand ls calls with
  | some q => (q.1 : Int)
  | none => -1
def spLanding (K : PySem.W.Frag) : Sp := fun vs H Q _ => ∃ (cl d : Addr) (calls : List CallD) (ls : List (Nat × Nat)), vs = [.ref cl, .ref d] ∧ BookAt H cl calls ∧ (∀ c ∈ calls, 1 ≤ c.1) ∧ calls.length ≤ 1000 ∧ H d = some (.dK (lsV ls)) ∧ Q (.int (landI ls calls)) H
theorem r_law_landing (T : Tx K mg) : FnR P w K mg base CX0 1 (ga K "_law_landing") (spLanding K) := by
  refine fnr0 T.F_law_landing sc_law_landing (fun vs H Q E h => ?_) hb_law_landing (fun cdv A outer s H vs Q E hr h => ?_)
  · obtain ⟨cl, d, calls, ls, rfl, _⟩ := h
    rfl
  · obtain ⟨cl, d, calls, ls, rfl, ⟨xs, hcl, hal⟩, h1, hfew, hd, k⟩ := h
    have hu := hu_of hr
    refine ⟨_, pss_cons (ps_for PassesOwn.never rfl (pi_range1 rfl T.fr_range (pa_cons (pe_callB call_len_seq rfl T.fr_len (by decide +kernel) (pa_cons (pv 0) pa_nil)) pa_nil)) (pg_name (i := 2) sc_law_landing.nd rfl (.inl rfl))
        (pss_one (ps_if (pt_cmp (pc_din hu (pe_op op_sub (pe_ix ix_tup (pe_ix ix_list (pv 0) (pv 2) (fun _ _ => rfl)) pe_int (fun _ _ => rfl)) pe_int) (pv 1)) (by rfl)) (pss_one (ps_ret (pv 2))) pss_nil)))
      (pss_one (ps_ret (pe_un un_neg pe_int))), ?_⟩
    have hlen := hal.1
    refine ⟨_, rfl, cl, xs, rfl, .inl (SqL.of hcl), (xs.length : Int), rfl, by omega, by omega, ?_⟩
    refine for_range (lo := 0) (n := xs.length) (fun i σ H' => H = H' ∧ (∃ s2, σ = [some (.ref cl), some (.ref d), s2]) ∧ ∀ (i' : Nat) c, i' < i → calls[i']? = some c → landOf ls (c.1 - 1) = none) ⟨rfl, ⟨none, rfl⟩, fun i' c hi => by omega⟩ (fun i σ H' hi ⟨eH, ⟨s2, eσ⟩, inv⟩ => ?_) (fun σ H' ⟨eH, ⟨s2, eσ⟩, inv⟩ => ?_)
    · subst eH eσ
      have hci : calls[i]? = some calls[i] := List.getElem?_eq_getElem (show i < calls.length by omega)
      generalize calls[i] = cc at hci
      obtain ⟨v, hv, t, kt, pl, rfl, ht, _, _⟩ := hal.2 _ _ hci
      have c1 := h1 cc (List.mem_of_getElem? hci)
      refine ⟨_, rfl, _, rfl, cl, xs, _, _, rfl, rfl, SqL.of hcl, at_nat (j := i) (by omega) hv, t, _, _, vi cc.1, rfl, rfl, SqT.of ht, rfl, _, _, rfl, rfl, _, rfl, d, (landOf ls (cc.1 - 1)).map vi, rfl, ?_, _, rfl, ?_⟩
      · have q := DGet.k (k := Sum.inl ((cc.1 - 1 : Nat) : Int)) hd
        rw [valV_ls] at q
        have e : kV (Sum.inl ((cc.1 - 1 : Nat) : Int)) = V.int ((cc.1 : Int) - 1) := congrArg V.int (by show ((cc.1 - 1 : Nat) : Int) = (cc.1 : Int) - 1; omega)
        rw [e] at q
        exact q
      cases hland : landOf ls (cc.1 - 1) with
      | none =>
        refine iteF ⟨rfl, ⟨_, rfl⟩, fun i' c hi' hc => ?_⟩
        by_cases z : i' < i
        · exact inv i' c z hc
        · have : i' = i := by omega
          subst this
          rw [hci] at hc
          cases hc
          exact hland
      | some j =>
        refine iteT ⟨_, rfl, ?_⟩
        have e : landI ls calls = (0 : Int) + (i : Int) := by
          unfold landI
          rw [firstLand_some hci hland inv]
          show (i : Int) = 0 + (i : Int)
          omega
        rw [e] at k
        exact k
    · subst eH eσ
      have e : landI ls calls = -1 := by
        unfold landI
        rw [firstLand_none fun i' c hc => inv i' c (by have := (List.getElem?_eq_some_iff.mp hc).1; omega) hc]
      rw [e] at k
      exact ⟨_, rfl, k⟩
/-! ### as it was then -/
def spAsThen (K : PySem.W.Frag) : Sp := fun vs H Q _ => ∃ (m dx c tb hl cl ca : Addr) (home place : Nat) (lost v : V) (st : Str) (b0 b1 b2 b3 b7 : Nat) (cc : CallD), vs = [.ref m, v] ∧ H m = some (.ins (ga K "Machine") dx (MF c tb home place hl cl ca lost st)) ∧ CallV H v cc ∧
  H hl = some (.lst (ns [b0, b1, b2, b3, cc.2.1.1, cc.2.1.2.1, cc.2.1.2.2, b7])) ∧ H cl = some (.lst (ns cc.2.2)) ∧ ∀ H', Same H H' → Q (.bl true) H'
theorem r_as_then (T : Tx K mg) : FnR P w K mg base CX0 2 (ga K "_law_as_then") (spAsThen K) := by
  refine fnr0 T.F_law_as_then sc_law_as_then (fun vs H Q E h => ?_) hb_law_as_then (fun cdv A outer s H vs Q E hr h => ?_)
  · obtain ⟨m, _, _, _, _, _, _, _, _, _, _, _, _, _, _, _, _, _, rfl, _⟩ := h
    rfl
  · obtain ⟨m, dx, c, tb, hl, cl, ca, home, place, lost, v, st, b0, b1, b2, b3, b7, cc, rfl, hm, ⟨t, kt, pl, rfl, ht, hkt, hpl⟩, hhl, hcl, k⟩ := h
    refine ⟨_, pss_one (ps_ret (pe_and (pe_cmpR (op_eqD hr.units) (pe_callTy call_tuple_of rfl T.fr_tuple (by decide +kernel) (pa_cons (pe_slice sl_list (pe_m0 (pv 0) T.cl_Machine T.me_Machine_boxes (r_boxes T) hr pass0) (po_some pe_int) (po_some pe_int)) pa_nil)) (pe_ix ix_tup (pv 1) pe_int (fun _ _ => rfl)) (nomark _))
      (pe_one (pe_cmpR (op_eqD hr.units) (pe_m0 (pv 0) T.cl_Machine T.me_Machine_pile (r_pile T) hr pass0) (pe_ix ix_tup (pv 1) pe_int (fun _ _ => rfl)) (nomark _))))), ?_⟩
    refine ⟨_, rfl, m, dx, _, rfl, hm, rfl, m, dx, c, tb, hl, cl, ca, hl, home, place, lost, st, _, rfl, hm, rfl, hhl, fun H1 q s1 hqn hq => ?_⟩
    refine ⟨_, rfl, _, rfl, q, _, rfl, SqL.of hq, fun l hl2 => ?_⟩
    have s2 := Same.new (o := .lst (cutV (ns [b0, b1, b2, b3, cc.2.1.1, cc.2.1.2.1, cc.2.1.2.2, b7]) (some 4) (some 7))) hl2
    refine ⟨l, ns [cc.2.1.1, cc.2.1.2.1, cc.2.1.2.2], rfl, .inl ⟨SqL.of upd_same, fun t3 ht3 => ?_⟩⟩
    have s3 := Same.new (o := .tup (ns [cc.2.1.1, cc.2.1.2.1, cc.2.1.2.2])) ht3
    have s13 := Same.trans s1 (Same.trans s2 s3)
    refine ⟨_, rfl, t, _, _, .ref kt, rfl, rfl, SqT.of (s13 _ _ ht), rfl, .tuple (ndD [cc.2.1.1, cc.2.1.2.1, cc.2.1.2.2]), .tuple (ndD [cc.2.1.1, cc.2.1.2.1, cc.2.1.2.2]), .tup (SqT.of upd_same) (nd_dp _), .tup (SqT.of (s13 _ _ hkt)) (nd_dp _), nd_shapedT _, nd_shapedT _, _, rfl, ?_⟩
    rw [nd_eqvT]
    refine iteT ⟨_, rfl, m, dx, _, rfl, s13 _ _ hm, rfl, m, dx, c, tb, hl, cl, ca, cl, home, place, lost, st, _, rfl, s13 _ _ hm, rfl, s13 _ _ hcl, fun H4 q4 s4 _ hq4 => ?_⟩
    have s14 := Same.trans s13 s4
    refine ⟨_, rfl, t, _, _, .ref pl, rfl, rfl, SqT.of (s14 _ _ ht), rfl, .list (ndD cc.2.2), .list (ndD cc.2.2), .lst (SqL.of hq4) (nd_dp _), .lst (SqL.of (s14 _ _ hpl)) (nd_dp _), nd_shapedL _, nd_shapedL _, ?_⟩
    rw [nd_eqvL]
    exact k _ s14
end
end Fb

set_option Elab.async false
set_option linter.all false
set_option maxRecDepth 100000
set_option maxHeartbeats 4000000
namespace Fb
open PySem PySem.Spec PyProof.Rows L2
open He (ga ma)
/-! ### what holds at a row -/
section
variable {rs : List RowD} {es : List (Option Ent)} {ls : List (Nat × Nat)}
theorem at_in (G : Good rs es ls) {bot : CallD} {place : Nat} {bs pile : List Nat} {calls : List CallD} (A : At rs es bot place bs pile calls) : ∀ c ∈ calls, 1 ≤ c.1 ∧ c.1 < rs.length ∧ c.2.2.length ≤ pile.length := fun c hc => by
  obtain ⟨k, hk⟩ := List.getElem?_of_mem hc
  obtain ⟨L, _⟩ := chain_at A.chain hk
  obtain ⟨_, e0, _, _, T0⟩ := A.ent
  obtain ⟨m, em⟩ := chain_pile A.chain ⟨_, T0.base.symm⟩ hk
  obtain ⟨r, o, hr, _, _⟩ := goes_on G L
  obtain ⟨i, t, e, hi, _⟩ := L.at_
  refine ⟨by omega, (List.getElem?_eq_some_iff.mp hr).1, ?_⟩
  rw [em, List.length_take]
  exact Nat.min_le_right _ _
theorem at_dropIn (G : Good rs es ls) {bot : CallD} {place : Nat} {bs pile : List Nat} {calls : List CallD} (A : At rs es bot place bs pile calls) (hb1 : bot.1 = rs.length) (hb2 : bot.2.2 = []) (hfew : calls.length ≤ 1000) (b : Nat) : DropIn rs es ls bot place bs pile calls := by
  obtain ⟨r, e, hr, he, T⟩ := A.ent
  refine ⟨A.len, ?_, hfew, hb1, at_in G A, fun k j hf => ?_⟩
  · refine reads_all G hb1 hb2 pile calls place (bxOf bs) pile.length r e hr he (Nat.le_refl _) ?_ A.chain
    rw [List.take_length]
    exact T
  · obtain ⟨c, _, _, h, _⟩ := at_drop G A b hf
    omega
theorem one_bit {bs pile : List Nat} {k v : Nat} (hk : k < 8) (e : bs[k]? = some v) : HoldsN (bxOf bs) pile 0 (2 ^ k) v := fun p hp => by
  rw [Nat.testBit_two_pow] at hp
  have := of_decide_eq_true hp
  subst this
  rw [val_box hk]
  exact e
theorem at_start (G : Good rs es ls) (hne : rs ≠ []) {b0 b1 b2 b3 b4 b5 b6 : Nat} : At rs es (rs.length, (b4, b5, b6), []) 0 [b0, b1, b2, b3, b4, b5, b6, rs.length] [] [] := by
  have h0 : 0 < rs.length := List.length_pos_iff.mpr hne
  refine ⟨rfl, ⟨rs[0], START, List.getElem?_eq_getElem h0, G.first hne, ⟨Nat.le_refl 0, rfl, one_bit (k := 7) (by omega) rfl, one_bit (k := 4) (by omega) rfl, one_bit (k := 5) (by omega) rfl, one_bit (k := 6) (by omega) rfl⟩⟩, trivial⟩
end
theorem eight {bs : List Nat} (h : bs.length = 8) : ∃ b0 b1 b2 b3 b4 b5 b6 b7, bs = [b0, b1, b2, b3, b4, b5, b6, b7] := by
  match bs, h with
  | [b0, b1, b2, b3, b4, b5, b6, b7], _ => exact ⟨_, _, _, _, _, _, _, _, rfl⟩
section
variable {P : Program} {w : World} {K : PySem.W.Frag} {mg : Str → Option Value} {base : Heap}
theorem FnR.ex {α : Type} {CX : CXT} {k : Nat} {f : Addr} {sp : α → Sp} (F : ∀ r, FnR P w K mg base CX k f (sp r)) : FnR P w K mg base CX k f (fun vs H Q E => ∃ r, sp r vs H Q E) :=
  fun A outer s H us vs Q E hr e0 r hs => let ⟨x, h⟩ := hs; F x A outer s H us vs Q E hr e0 r h
theorem FnR.or {CX : CXT} {k : Nat} {f : Addr} {sp sq : Sp} (F : FnR P w K mg base CX k f sp) (G : FnR P w K mg base CX k f sq) : FnR P w K mg base CX k f (fun vs H Q E => sp vs H Q E ∨ sq vs H Q E) :=
  fun A outer s H us vs Q E hr e0 r hs => hs.elim (F A outer s H us vs Q E hr e0 r) (G A outer s H us vs Q E hr e0 r)
/-! ### back -/
def spLBack (K : PySem.W.Frag) : Sp := fun vs H Q _ => ∃ (m dx c tb hl cl ca bk : Addr) (home nx : Nat) (lost : V) (st : Str) (bs p : List Nat) (calls : List CallD), vs = [.ref m, .ref bk, vi home] ∧ H m = some (.ins (ga K "Machine") dx (MF c tb home nx hl cl ca lost st)) ∧ H hl = some (.lst (ns bs)) ∧ H cl = some (.lst (ns p)) ∧ BookAt H bk calls ∧ bs.length = 8 ∧
  (calls = [] → st = "ended" ∧ nx = home) ∧ (∀ cc r, calls = cc :: r → nx = cc.1 ∧ bs[4]? = some cc.2.1.1 ∧ bs[5]? = some cc.2.1.2.1 ∧ bs[6]? = some cc.2.1.2.2 ∧ p = cc.2.2) ∧ ∀ H', Same H H' → Q (.bl true) H'
theorem r_law_back (T : Tx K mg) : FnR P w K mg base CX0 3 (ga K "_law_back") (spLBack K) := by
  refine fnr0 T.F_law_back sc_law_back (fun vs H Q E h => ?_) hb_law_back (fun cdv A outer s H vs Q E hr h => ?_)
  · obtain ⟨m, _, _, _, _, _, _, _, _, _, _, _, _, _, _, rfl, _⟩ := h
    rfl
  · obtain ⟨m, dx, c, tb, hl, cl, ca, bk, home, nx, lost, st, bs, p, calls, rfl, hm, hhl, hcl, ⟨xs, hbk, hal⟩, hb8, h0, h1, k⟩ := h
    have hu := Nat.lt_of_succ_lt (hu_of hr)
    refine ⟨_, pss_cons (ps_if (pt_cmpR (op_eqNil hu) (pv 1) (pe_lst pa_nil) (nomark _)) (pss_one (ps_ret (pe_and (pe_cmpR op_eq (pe_m0 (pv 0) T.cl_Machine T.me_Machine_word (r_word T) (hr.mono (by decide)) pass0) pe_str (nomark _)) (pe_one (pe_cmpR op_eq (pe_m0 (pv 0) T.cl_Machine T.me_Machine_at (r_at T) (hr.mono (by decide)) pass0) (pv 2) (nomark _)))))) pss_nil)
      (pss_one (ps_ret (pe_and (pe_cmpR op_eq (pe_m0 (pv 0) T.cl_Machine T.me_Machine_at (r_at T) (hr.mono (by decide)) pass0) (pe_ix ix_tup (pe_ix ix_list (pv 1) pe_int (fun _ _ => rfl)) pe_int (fun _ _ => rfl)) (nomark _)) (pe_one (pe_f (r_as_then T) hr rfl T.gl_law_as_then T.kp_law_as_then pass0 (pa_cons (pv 0) (pa_cons (pe_ix ix_list (pv 1) pe_int (fun _ _ => rfl)) pa_nil))))))), ?_⟩
    refine ⟨_, rfl, (by show 0 ≤ sizeLine; decide), fun ep hep => ?_⟩
    have s1 := Same.new (o := .lst []) hep
    refine ⟨bk, ep, xs, rfl, rfl, SqL.of (s1 _ _ hbk), SqL.of upd_same, _, rfl, ?_⟩
    cases calls with
    | nil =>
      have : xs = [] := List.eq_nil_of_length_eq_zero hal.1
      subst this
      obtain ⟨e1, e2⟩ := h0 rfl
      subst e1 e2
      refine iteT ⟨_, rfl, m, dx, _, rfl, s1 _ _ hm, rfl, m, dx, c, tb, hl, cl, ca, nx, nx, lost, _, _, rfl, s1 _ _ hm, rfl, rfl, _, rfl, iteT ⟨_, rfl, m, dx, _, rfl, s1 _ _ hm, rfl, m, dx, c, tb, hl, cl, ca, nx, nx, lost, vi nx, _, rfl, s1 _ _ hm, rfl, _, rfl, rfl, ?_⟩⟩
      rw [decide_eq_true rfl]
      exact k _ s1
    | cons cc r =>
      have : xs.isEmpty = false := by cases xs with
        | nil => have := hal.1; simp at this
        | cons _ _ => rfl
      rw [this]
      obtain ⟨e1, e4, e5, e6, ep2⟩ := h1 cc r rfl
      obtain ⟨v, hv, hcv⟩ := hal.2 0 cc rfl
      have hcv0 := (Same.kp s1).callV hcv
      obtain ⟨t, kt, pl, rfl, ht, hkt, hpl⟩ := hcv
      subst e1
      refine iteF ⟨_, rfl, m, dx, _, rfl, s1 _ _ hm, rfl, m, dx, c, tb, hl, cl, ca, home, cc.1, lost, vi cc.1, _, rfl, s1 _ _ hm, rfl, _, rfl, bk, xs, _, .ref t, rfl, rfl, SqL.of (s1 _ _ hbk), at_nat (j := 0) rfl hv, t, _, _, vi cc.1, rfl, rfl, SqT.of (s1 _ _ ht), rfl, rfl, _, rfl, ?_⟩
      rw [decide_eq_true rfl]
      obtain ⟨b0, b1, b2, b3, b4, b5, b6, b7, rfl⟩ := eight hb8
      cases e4
      cases e5
      cases e6
      subst ep2
      exact iteT ⟨_, rfl, _, rfl, bk, xs, _, .ref t, rfl, rfl, SqL.of (s1 _ _ hbk), at_nat (j := 0) rfl hv, m, dx, c, tb, hl, cl, ca, home, cc.1, lost, .ref t, st, b0, b1, b2, b3, b7, cc, rfl, s1 _ _ hm, hcv0, s1 _ _ hhl, s1 _ _ hcl, fun H' s2 => k _ (Same.trans s1 s2)⟩
/-! ### landed -/
def spLLanded (K : PySem.W.Frag) : Sp := fun vs H Q _ => ∃ (m dx c tb hl cl ca bk d hp : Addr) (home nx b : Nat) (lost : V) (st : Str) (bs : List Nat) (ls : List (Nat × Nat)) (calls : List CallD), vs = [.ref m, .ref bk, .ref d, .ref hp, vi b] ∧ H m = some (.ins (ga K "Machine") dx (MF c tb home nx hl cl ca lost st)) ∧ BookAt H bk calls ∧ H d = some (.dK (lsV ls)) ∧ H hp = some (.lst (ns bs)) ∧ bs.length = 8 ∧ b ≤ 7 ∧ (∀ c ∈ calls, 1 ≤ c.1) ∧ calls.length ≤ 1000 ∧
  (firstLand ls calls = none → st = "dropped" ∧ lost = vi (bs.getD b 0)) ∧ (∀ k j cc, firstLand ls calls = some (k, j) → calls[k]? = some cc → nx = j ∧ H hl = some (.lst (ns (landBoxes bs b cc.2.1))) ∧ H cl = some (.lst (ns cc.2.2))) ∧ ∀ H', Same H H' → Q (.bl true) H'
theorem r_law_landed (T : Tx K mg) : FnR P w K mg base CX0 3 (ga K "_law_landed") (spLLanded K) := by
  refine fnr0 T.F_law_landed sc_law_landed (fun vs H Q E h => ?_) hb_law_landed (fun cdv A outer s H vs Q E hr h => ?_)
  · obtain ⟨m, _, _, _, _, _, _, _, _, _, _, _, _, _, _, _, _, _, rfl, _⟩ := h
    rfl
  · obtain ⟨m, dx, c, tb, hl, cl, ca, bk, d, hp, home, nx, b, lost, st, bs, ls, calls, rfl, hm, hbook, hd, hhp, hb8, hb7, hc1, hfew, h0, h1, k⟩ := h
    have hu := hu_of hr
    refine ⟨_, pss_cons (ps_set (i := 5) sc_law_landed.nd rfl (.inl rfl) (pe_f (r_law_landing T) (hr.mono (by decide)) rfl T.gl_law_landing T.kp_law_landing pass0 (pa_cons (pv 1) (pa_cons (pv 2) pa_nil))))
      (pss_cons (ps_if (pt_cmpR op_eq (pv 5) (pe_un un_neg pe_int) (nomark _)) (pss_one (ps_ret (pe_and (pe_cmpR op_eq (pe_m0 (pv 0) T.cl_Machine T.me_Machine_word (r_word T) (hr.mono (by decide)) pass0) pe_str (nomark _)) (pe_one (pe_cmpR op_eq (pe_m0 (pv 0) T.cl_Machine T.me_Machine_fault (r_fault T) (hr.mono (by decide)) pass0) (pe_ix ix_list (pv 3) (pv 4) (fun _ _ => rfl)) (nomark _)))))) pss_nil)
      (pss_cons (ps_if (PW.pt (pw_or (pt_cmpR op_ne (pe_m0 (pv 0) T.cl_Machine T.me_Machine_at (r_at T) (hr.mono (by decide)) pass0) (pe_dget hu (pv 2) (pe_op op_sub (pe_ix ix_tup (pe_ix ix_list (pv 1) (pv 5) (fun _ _ => rfl)) pe_int (fun _ _ => rfl)) pe_int) (fun _ _ => rfl)) (nomark _))
          (pw_or1 (pt_not (pt_val (pe_f (r_as_then T) hr rfl T.gl_law_as_then T.kp_law_as_then pass0 (pa_cons (pv 0) (pa_cons (pe_ix ix_list (pv 1) (pv 5) (fun _ _ => rfl)) pa_nil)))))))) (pss_one (ps_ret pe_bl)) pss_nil)
      (pss_cons (ps_set (i := 6) sc_law_landed.nd rfl (.inl rfl) (pe_m0 (pv 0) T.cl_Machine T.me_Machine_boxes (r_boxes T) (hr.mono (by decide)) pass0))
      (pss_one (ps_ret (pe_and (pe_cmpR op_eq (pe_ix ix_list (pv 6) pe_int (fun _ _ => rfl)) (pe_ix ix_list (pv 3) (pv 4) (fun _ _ => rfl)) (nomark _))
        (pe_and (pe_cmpR (op_eqD hr.units) (pe_slice sl_list (pv 6) (po_some pe_int) (po_some pe_int)) (pe_slice sl_list (pv 3) (po_some pe_int) (po_some pe_int)) (nomark _)) (pe_one (pe_cmpR op_eq (pe_ix ix_list (pv 6) pe_int (fun _ _ => rfl)) (pe_ix ix_list (pv 3) pe_int (fun _ _ => rfl)) (nomark _)))))))))), ?_⟩
    refine ⟨_, rfl, _, rfl, bk, d, calls, ls, rfl, hbook, hc1, hfew, hd, ?_⟩
    obtain ⟨xs, hbk, hal⟩ := hbook
    refine ⟨_, rfl, _, rfl, rfl, _, rfl, ?_⟩
    cases hf : firstLand ls calls with
    | none =>
      have e : landI ls calls = -1 := by unfold landI; rw [hf]
      rw [e]
      obtain ⟨e1, e2⟩ := h0 hf
      subst e1 e2
      refine iteT ⟨_, rfl, m, dx, _, rfl, hm, rfl, m, dx, c, tb, hl, cl, ca, home, nx, _, _, _, rfl, hm, rfl, rfl, _, rfl, iteT ⟨_, rfl, m, dx, _, rfl, hm, rfl, m, dx, c, tb, hl, cl, ca, home, nx, _, vi (bs.getD b 0), _, rfl, hm, rfl, _, rfl, _, rfl, hp, ns bs, _, vi (bs.getD b 0), rfl, rfl, SqL.of hhp, atN (by omega), rfl, ?_⟩⟩
      rw [decide_eq_true rfl]
      exact k _ Same.rfl
    | some q =>
      obtain ⟨kk, j⟩ := q
      obtain ⟨cc, hcc, hland⟩ := firstLand_at hf
      have e : landI ls calls = (kk : Int) := by unfold landI; rw [hf]
      rw [e]
      obtain ⟨e1, e2, e3⟩ := h1 kk j cc hf hcc
      subst e1
      rw [decide_eq_false (show ¬ V.int (kk : Int) = V.int (-1) from fun z => by have := V.int.inj z; omega)]
      obtain ⟨v, hv, hcv⟩ := hal.2 _ _ hcc
      have hcv0 := hcv
      obtain ⟨t, kt, pl, rfl, ht, hkt, hpl⟩ := hcv
      have c1 := hc1 cc (List.mem_of_getElem? hcc)
      refine iteF ⟨_, rfl, m, dx, _, rfl, hm, rfl, m, dx, c, tb, hl, cl, ca, home, nx, lost, vi nx, st, rfl, hm, rfl, _, rfl, _, rfl, _, rfl, bk, xs, _, .ref t, rfl, rfl, SqL.of hbk, at_nat rfl hv, t, _, _, vi cc.1, rfl, rfl, SqT.of ht, rfl, _, _, rfl, rfl, d, vi nx, rfl, ?_, rfl, _, rfl, ?_⟩
      · have q := DGet.k (k := Sum.inl ((cc.1 - 1 : Nat) : Int)) hd
        rw [valV_ls, hland] at q
        have e : kV (Sum.inl ((cc.1 - 1 : Nat) : Int)) = V.int ((cc.1 : Int) - 1) := congrArg V.int (by show ((cc.1 - 1 : Nat) : Int) = (cc.1 : Int) - 1; omega)
        rw [e] at q
        exact q
      rw [decide_eq_true rfl]
      obtain ⟨b0, b1, b2, b3, b4, b5, b6, b7, rfl⟩ := eight hb8
      refine iteF ⟨_, rfl, _, rfl, _, rfl, bk, xs, _, .ref t, rfl, rfl, SqL.of hbk, at_nat rfl hv, m, dx, c, tb, hl, cl, ca, home, nx, lost, .ref t, st, ([b0, b1, b2, b3, b4, b5, b6, b7] : List Nat).getD b 0, b1, b2, b3, b7, cc, rfl, hm, hcv0, e2, e3, fun H1 s1 => ⟨_, rfl, iteF ?_⟩⟩
      refine ⟨_, rfl, m, dx, _, rfl, s1 _ _ hm, rfl, m, dx, c, tb, hl, cl, ca, hl, home, nx, lost, st, _, rfl, s1 _ _ hm, rfl, s1 _ _ e2, fun H2 q2 s2 _ hq2 => ?_⟩
      have s12 := Same.trans s1 s2
      refine ⟨_, rfl, q2, _, _, vi (([b0, b1, b2, b3, b4, b5, b6, b7] : List Nat).getD b 0), rfl, rfl, SqL.of hq2, rfl, _, rfl, _, rfl, hp, _, _, vi (([b0, b1, b2, b3, b4, b5, b6, b7] : List Nat).getD b 0), rfl, rfl, SqL.of (s12 _ _ hhp), atN (by omega), rfl, _, rfl, ?_⟩
      rw [decide_eq_true rfl]
      refine iteT ⟨_, rfl, _, rfl, _, rfl, q2, _, rfl, SqL.of hq2, fun l1 hl1 => ?_⟩
      have s3 := Same.new (o := .lst (ns [b1, b2, b3])) hl1
      refine ⟨_, rfl, _, rfl, _, rfl, hp, _, rfl, SqL.of (s3 _ _ (s12 _ _ hhp)), fun l2 hl2 => ?_⟩
      have s4 := Same.new (o := .lst (ns [b1, b2, b3])) hl2
      have s14 := Same.trans s12 (Same.trans s3 s4)
      refine ⟨.list (ndD [b1, b2, b3]), .list (ndD [b1, b2, b3]), .lst (xs := ns [b1, b2, b3]) (SqL.of (s4 _ _ upd_same)) (nd_dp [b1, b2, b3]), .lst (xs := ns [b1, b2, b3]) (SqL.of upd_same) (nd_dp [b1, b2, b3]), nd_shapedL _, nd_shapedL _, _, rfl, ?_⟩
      rw [nd_eqvL]
      refine iteT ⟨_, rfl, q2, _, _, vi b7, rfl, rfl, SqL.of (s4 _ _ (s3 _ _ hq2)), rfl, _, rfl, hp, _, _, vi b7, rfl, rfl, SqL.of (s14 _ _ hhp), rfl, rfl, ?_⟩
      rw [decide_eq_true rfl]
      exact k _ s14
end
end Fb

set_option Elab.async false
set_option linter.all false
set_option maxRecDepth 100000
set_option maxHeartbeats 4000000
namespace Fb
open PySem PySem.Spec PyProof.Rows L2
open He (ga ma)
theorem word_call {r : RowD} (h : ∀ t, r ≠ .call t) : ¬ V.str (wordOf r) = V.str "call" := by
  cases r with
  | call t => exact absurd rfl (h t)
  | _ => first | exact (by decide : ¬ V.str "set" = V.str "call") | exact (by decide : ¬ V.str "copy" = V.str "call") | exact (by decide : ¬ V.str "add" = V.str "call") | exact (by decide : ¬ V.str "grow" = V.str "call") | exact (by decide : ¬ V.str "shrink" = V.str "call") | exact (by decide : ¬ V.str "put" = V.str "call") | exact (by decide : ¬ V.str "get" = V.str "call") | exact (by decide : ¬ V.str "jump" = V.str "call") | exact (by decide : ¬ V.str "branch" = V.str "call") | exact (by decide : ¬ V.str "back" = V.str "call") | exact (by decide : ¬ V.str "drop" = V.str "call")
theorem word_back {r : RowD} (h : ∀ t, r ≠ .back t) : ¬ V.str (wordOf r) = V.str "back" := by
  cases r with
  | back t => exact absurd rfl (h t)
  | _ => first | exact (by decide : ¬ V.str "set" = V.str "back") | exact (by decide : ¬ V.str "copy" = V.str "back") | exact (by decide : ¬ V.str "add" = V.str "back") | exact (by decide : ¬ V.str "grow" = V.str "back") | exact (by decide : ¬ V.str "shrink" = V.str "back") | exact (by decide : ¬ V.str "put" = V.str "back") | exact (by decide : ¬ V.str "get" = V.str "back") | exact (by decide : ¬ V.str "jump" = V.str "back") | exact (by decide : ¬ V.str "branch" = V.str "back") | exact (by decide : ¬ V.str "call" = V.str "back") | exact (by decide : ¬ V.str "drop" = V.str "back")
theorem word_drop {r : RowD} (h : ∀ t, r ≠ .drop t) : ¬ V.str (wordOf r) = V.str "drop" := by
  cases r with
  | drop t => exact absurd rfl (h t)
  | _ => first | exact (by decide : ¬ V.str "set" = V.str "drop") | exact (by decide : ¬ V.str "copy" = V.str "drop") | exact (by decide : ¬ V.str "add" = V.str "drop") | exact (by decide : ¬ V.str "grow" = V.str "drop") | exact (by decide : ¬ V.str "shrink" = V.str "drop") | exact (by decide : ¬ V.str "put" = V.str "drop") | exact (by decide : ¬ V.str "get" = V.str "drop") | exact (by decide : ¬ V.str "jump" = V.str "drop") | exact (by decide : ¬ V.str "branch" = V.str "drop") | exact (by decide : ¬ V.str "call" = V.str "drop") | exact (by decide : ¬ V.str "back" = V.str "drop")
theorem Al.cons {α : Type} {R : V → α → Prop} {xs : List V} {l : List α} {v : V} {q : α} (r : R v q) (h : Al R xs l) : Al R (v :: xs) (q :: l) := ⟨by simp [h.1], fun i p e => by
  cases i with
  | zero =>
    cases e
    exact ⟨v, rfl, r⟩
  | succ i => exact h.2 i p e⟩
theorem Al.drop {α : Type} {R : V → α → Prop} {xs : List V} {l : List α} (h : Al R xs l) (k : Nat) : Al R (xs.drop k) (l.drop k) := ⟨by simp [h.1], fun i p e => by
  rw [List.getElem?_drop] at e ⊢
  exact h.2 _ _ e⟩
theorem cut_drop (xs : List V) (k : Nat) : cutV xs (some (k : Int)) none = xs.drop k := by
  unfold cutV
  rw [HT.sIx_none, HT.sIx_nat]
  by_cases h : k ≤ xs.length
  · rw [Nat.min_eq_left h, List.take_of_length_le (by rw [List.length_drop]; omega)]
  · rw [Nat.min_eq_right (by omega), Nat.sub_self, List.take_zero, List.drop_of_length_le (by omega)]
theorem Kp.seqL {K : PySem.W.Frag} {H H' : Hp} {a : Addr} {xs : List V} (e : Kp H H') (h : SqL K H a xs) : SqL K H' a xs := by
  rcases h with (h | ⟨o, h⟩) | h
  · exact .inl (.inl (e.lst h))
  · exact .inl (.inr ⟨o, e.frz h⟩)
  · exact .inr h
section
variable {P : Program} {w : World} {K : PySem.W.Frag} {mg : Str → Option Value} {base : Heap}
theorem MachAt.mono {H : Hp} {m : Addr} {rs : List RowD} {es : List (Option Ent)} {ls : List (Nat × Nat)} {place : Nat} {bs pile : List Nat} {lost : V} {st : Str} {n n' : Nat} (h : MachAt K H m rs es ls place bs pile lost st n) (hn : n ≤ n') : MachAt K H m rs es ls place bs pile lost st n' :=
  let ⟨dx, c, tb, hl, cl, ca, cs, M⟩ := h
  ⟨dx, c, tb, hl, cl, ca, cs, ⟨M.at_, M.lay, M.held, M.cells, M.calls, Nat.le_trans M.few hn⟩⟩
theorem MachAt.same {H H' : Hp} {m : Addr} {rs : List RowD} {es : List (Option Ent)} {ls : List (Nat × Nat)} {place : Nat} {bs pile : List Nat} {lost : V} {st : Str} {n : Nat} (h : MachAt K H m rs es ls place bs pile lost st n) (s : Same H H') : MachAt K H' m rs es ls place bs pile lost st n :=
  let ⟨dx, c, tb, hl, cl, ca, cs, M⟩ := h
  ⟨dx, c, tb, hl, cl, ca, cs, M.same s⟩
/-- while the law runs its machine -/
def RunI (K : PySem.W.Frag) (HB : Hp) (m : Addr) (rs : List RowD) (es : List (Option Ent)) (ls : List (Nat × Nat)) (bot : CallD) (n : Nat) (cl : Addr) (H' : Hp) : Prop := Kp HB H' ∧ ∃ place bs pile lost st, MachAt K H' m rs es ls place bs pile lost st (n + 1) ∧
  ((st = "runs" ∧ lost = .non ∧ ∃ calls, At rs es bot place bs pile calls ∧ BookAt H' cl calls ∧ pile.length ≤ 5 * n ∧ calls.length ≤ n) ∨ st = "ended" ∨ st = "dropped")
def LawI (K : PySem.W.Frag) (HB : Hp) (a rp d cd tb bx m : Addr) (rs : List RowD) (es : List (Option Ent)) (ls : List (Nat × Nat)) (bot : CallD) : Nat → L2.St → Hp → Prop := fun n σ H' => ∃ (cl : Addr) (s8 s9 s10 s11 : Option V), σ = [some (.ref a), some (.ref rp), some (.ref d), some (.ref cd), some (.ref tb), some (.ref bx), some (.ref m), some (.ref cl), s8, s9, s10, s11] ∧ RunI K HB m rs es ls bot n cl H'
def spLaw (K : PySem.W.Frag) : Sp := fun vs H Q _ => ∃ (a : Addr) (zs : List Int), vs = [.ref a] ∧ SqL K H a (zs.map V.int) ∧ zs.length ≤ 63 ∧ ∀ H', Q (.bl true) H'
theorem law_walk (T : Tx K mg) (cdv : Value) (A : Around) (outer : List Env) (s : Shared) (H : Hp) (vs : List V) (Q : VK) (E : XK) (hr : Room 29 (A.deeper (envOfC "law" (defScope s_law) s.heap.objs.size (ga K "law") cdv))) (h : spLaw K vs H Q E) :
    ∃ t, PSs (cxOf CX0 P w K mg base N_law "law" (defScope s_law) (ga K "law") cdv A outer s H E).nox (defBody s_law) t ∧ t { nx := fun _ H' => Q .non H', rt := Q } (start N_law vs) H := by
  obtain ⟨a, zs, rfl, hs, hz, k⟩ := h
  have hu := Nat.lt_of_succ_lt (hu_of hr)
  refine ⟨_, pss_cons (ps_if (pt_cmpR op_eq (pe_op op_mod (pe_f (r_cell_at T) (hr.mono (by decide)) rfl T.gl_law_cell_at T.kp_law_cell_at pass0 (pa_cons (pv 0) (pa_cons pe_int pa_nil))) pe_int) pe_int (nomark _))
      (pss_one (ps_asg (pe_f (r_any_code T) (hr.mono (by decide)) rfl T.gl_law_any_code T.kp_law_any_code pass0 (pa_cons (pv 0) pa_nil)) (pg_tup rfl (pgs_cons (pg_name (i := 1) sc_law.nd rfl (.inl rfl)) (pgs_cons (pg_name (i := 2) sc_law.nd rfl (.inl rfl)) pgs_nil)))))
      (pss_one (ps_asg (pe_f (r_law_code T) (hr.mono (by decide)) rfl T.gl_law_code T.kp_law_code pass0 (pa_cons (pv 0) pa_nil)) (pg_tup rfl (pgs_cons (pg_name (i := 1) sc_law.nd rfl (.inl rfl)) (pgs_cons (pg_name (i := 2) sc_law.nd rfl (.inl rfl)) pgs_nil))))))
    (pss_cons (ps_setLc (i := 3) (own := [("_law_told", 9)]) (g := gName 9) (tt := tYes) rfl sc_law.nd rfl rfl (sw_true rfl rfl rfl (by decide +kernel)) (pi_list (pv 1)) (blkOk_by (N := N_law) (sc := defScope s_law) (by decide +kernel)) (fun _ _ _ _ _ => pg_name (i := 9) sc_law.nd rfl (.inl rfl)) (fun _ _ _ _ _ => pts_nil)
        (fun _ _ _ _ _ => pe_f (FnR.ex (r_law_row T)) (hr.mono (by decide)) rfl T.gl_law_row T.kp_law_row pass0 (pa_cons (pv 9) pa_nil)))
    (pss_cons (ps_set (i := 4) sc_law.nd rfl (.inl rfl) (pe_f (r_law_table T) (hr.mono (by decide)) rfl T.gl_law_table T.kp_law_table pass0 (pa_cons (pv 3) (pa_cons (pv 2) pa_nil))))
    (pss_cons (ps_if (PW.pt (pw_or (pt_cmpR op_isN (pv 4) pe_non (nomark _)) (pw_or1 (pt_cmpR (op_neNil hu) (pe_f (r_checked T) (hr.mono (by decide)) rfl T.gl_checked T.kp_checked pass0 (pa_cons (pv 3) (pa_cons (pv 4) pa_nil))) (pe_lst pa_nil) (nomark _))))) (pss_one (ps_ret pe_bl)) pss_nil)
    (pss_cons (ps_setLc (i := 5) (own := [("_law_k", 8)]) (g := gName 8) (tt := tYes) rfl sc_law.nd rfl rfl (sw_true rfl rfl rfl (by decide +kernel)) (pi_range1 rfl T.fr_range (pa_cons pe_int pa_nil)) (blkOk_by (N := N_law) (sc := defScope s_law) (by decide +kernel)) (fun _ _ _ _ _ => pg_name (i := 8) sc_law.nd rfl (.inl rfl)) (fun _ _ _ _ _ => pts_nil)
        (fun _ _ _ _ _ => pe_f (r_law_value T) (hr.mono (by decide)) rfl T.gl_law_value T.kp_law_value pass0 (pa_cons (pe_f (r_cell_at T) (hr.mono (by decide)) rfl T.gl_law_cell_at T.kp_law_cell_at pass0 (pa_cons (pv 0) (pa_cons (pe_op op_add pe_int (pv 8)) pa_nil))) pa_nil)))
    (pss_cons (ps_set (i := 6) sc_law.nd rfl (.inl rfl) (StX.pe_makeR T.mk_Machine (r_Machine_init T) (hr.mono (by decide)) rfl T.gl_Machine pass0 (pa_cons (pv 3) (pa_cons (pv 4) (pa_cons (pv 5) pa_nil)))))
    (pss_cons (ps_set (i := 7) sc_law.nd rfl (.inl rfl) (pe_lst pa_nil))
    (pss_cons (ps_for PassesOwn.never rfl (pi_range1 rfl T.fr_range (pa_cons (pe_op op_add pe_int (pe_op op_mod (pe_f (r_cell_at T) (hr.mono (by decide)) rfl T.gl_law_cell_at T.kp_law_cell_at pass0 (pa_cons (pv 0) (pa_cons pe_int pa_nil))) pe_int)) pa_nil)) (pg_name (i := 8) sc_law.nd rfl (.inl rfl))
      (pss_cons (ps_if (pt_cmpR op_ne (pe_m0 (pv 6) T.cl_Machine T.me_Machine_word (r_word T) (hr.mono (by decide)) pass0) pe_str (nomark _)) (pss_one (ps_ret (pe_cmpR op_in_seq (pe_m0 (pv 6) T.cl_Machine T.me_Machine_word (r_word T) (hr.mono (by decide)) pass0) (pe_lst (pa_cons pe_str (pa_cons pe_str pa_nil))) (by rfl)))) pss_nil)
      (pss_cons (ps_set (i := 9) sc_law.nd rfl (.inl rfl) (pe_ix ix_list (pv 1) (pe_m0 (pv 6) T.cl_Machine T.me_Machine_at (r_at T) (hr.mono (by decide)) pass0) (fun _ _ => rfl)))
      (pss_cons (ps_set (i := 10) sc_law.nd rfl (.inl rfl) (pe_m0 (pv 6) T.cl_Machine T.me_Machine_boxes (r_boxes T) (hr.mono (by decide)) pass0))
      (pss_cons (ps_set (i := 11) sc_law.nd rfl (.inl rfl) (pe_tup (pa_cons (pe_op op_add (pe_m0 (pv 6) T.cl_Machine T.me_Machine_at (r_at T) (hr.mono (by decide)) pass0) pe_int) (pa_cons (pe_callTy call_tuple_of rfl T.fr_tuple (by decide +kernel) (pa_cons (pe_slice sl_list (pv 10) (po_some pe_int) (po_some pe_int)) pa_nil)) (pa_cons (pe_m0 (pv 6) T.cl_Machine T.me_Machine_pile (r_pile T) (hr.mono (by decide)) pass0) pa_nil)))))
      (pss_cons (ps_expr (pe_m0 (pv 6) T.cl_Machine T.me_Machine_step (FnR.or (r_stepR T) (r_stepD T)) (hr.mono (by decide)) pass0))
      (pss_cons (ps_if (pt_cmpR op_eq (pe_ix ix_tup (pv 9) pe_int (fun _ _ => rfl)) pe_str (nomark _)) (pss_one (ps_set (i := 7) sc_law.nd rfl (.inl rfl) (pe_op op_cat (pe_lst (pa_cons (pv 11) pa_nil)) (pv 7)))) pss_nil)
      (pss_cons (ps_if (pt_cmpR op_eq (pe_ix ix_tup (pv 9) pe_int (fun _ _ => rfl)) pe_str (nomark _))
        (pss_cons (ps_if (pt_not (pt_val (pe_f (r_law_back T) (hr.mono (by decide)) rfl T.gl_law_back T.kp_law_back pass0 (pa_cons (pv 6) (pa_cons (pv 7) (pa_cons (pe_callB call_len_seq rfl T.fr_len (by decide +kernel) (pa_cons (pv 3) pa_nil)) pa_nil)))))) (pss_one (ps_ret pe_bl)) pss_nil)
        (pss_one (ps_set (i := 7) sc_law.nd rfl (.inl rfl) (pe_slice sl_list (pv 7) (po_some pe_int) po_none)))) pss_nil)
      (pss_one (ps_if (pt_cmpR op_eq (pe_ix ix_tup (pv 9) pe_int (fun _ _ => rfl)) pe_str (nomark _))
        (pss_cons (ps_if (pt_not (pt_val (pe_f (r_law_landed T) (hr.mono (by decide)) rfl T.gl_law_landed T.kp_law_landed pass0 (pa_cons (pv 6) (pa_cons (pv 7) (pa_cons (pv 2) (pa_cons (pv 10) (pa_cons (pe_ix ix_tup (pv 9) pe_int (fun _ _ => rfl)) pa_nil)))))))) (pss_one (ps_ret pe_bl)) pss_nil)
        (pss_one (ps_set (i := 7) sc_law.nd rfl (.inl rfl) (pe_slice sl_list (pv 7) (po_some (pe_op op_add pe_int (pe_f (r_law_landing T) (hr.mono (by decide)) rfl T.gl_law_landing T.kp_law_landing pass0 (pa_cons (pv 7) (pa_cons (pv 2) pa_nil))))) po_none)))) pss_nil))))))))))
    (pss_one (ps_ret (pe_cmpR op_ne (pe_m0 (pv 6) T.cl_Machine T.me_Machine_word (r_word T) (hr.mono (by decide)) pass0) pe_str (nomark _))))))))))), ?_⟩
  -- the code
  refine seq_join (t := tIfS _ _ _) (fun σ H1 => ∃ (rp d : Addr) (rxs : List V) (rs : List RowD) (ls : List (Nat × Nat)), σ = [some (.ref a), some (.ref rp), some (.ref d), none, none, none, none, none, none, none, none, none] ∧ Same H H1 ∧ H1 rp = some (.lst rxs) ∧ Al (TellV K false H1) rxs rs ∧ (∀ r ∈ rs, r.ok) ∧ rs.length ≤ 100 ∧ H1 d = some (.dK (lsV ls)) ∧ ls.length < 64) (fun σ H1 ⟨rp, d, rxs, rs, ls, eσ, s1, hrp, hral, hrok, hrl, hd, hll⟩ => ?_) (fun N rest => ?_)
  rotate_left
  · refine ⟨_, rfl, a, zs, 0, rfl, by omega, hs, fun z => ?_⟩
    refine ⟨_, _, rfl, rfl, (by show (0 : Int) < 2; decide), rfl, _, rfl, ?_⟩
    refine ite2 (fun _ => ?_) (fun _ => ?_)
    · exact ⟨_, rfl, a, zs, rfl, hs, hz, fun H' t p d xs rs ls sm ht hp hal hok hl hd hll => ⟨t, _, rfl, SqT.of ht, rfl, _, _, rfl, _, _, rfl, rfl, rest _ _ ⟨p, d, xs, rs, ls, rfl, sm, hp, hal, hok, hl, hd, hll⟩⟩⟩
    · exact ⟨_, rfl, a, zs, rfl, hs, hz, fun H' t p d xs rs ls sm ht hp hal hok hl hd hll => ⟨t, _, rfl, SqT.of ht, rfl, _, _, rfl, _, _, rfl, rfl, rest _ _ ⟨p, d, xs, rs, ls, rfl, sm, hp, hal, hok, hl, hd, hll⟩⟩⟩
  subst eσ
  have hrx := hral.1
  -- the rows
  refine ⟨_, rfl, rp, rfl, ⟨_, SqL.of hrp⟩, fun cd hcd => ?_⟩
  refine lc_list (K := K) (a := rp) (xs := rxs) (fun n H' => ∃ xs, Same H1 H' ∧ H' cd = some (.lst xs) ∧ Al (RowV K H') xs (rs.take n)) ⟨[], Same.new hcd, upd_same, .nil⟩ (fun n H' _ ⟨_, sm, _⟩ => SqL.of (sm _ _ hrp)) (fun n x H' hxn ⟨xs, sm, hcl, hal⟩ => ?_) (fun H2 ⟨xs, sm, hcl, hal⟩ => ?_)
  · obtain ⟨r, hr', hv⟩ := hral.back hxn
    refine ⟨rfl, _, rfl, r, _, rfl, (Same.kp sm).tell hv, hrok r (List.mem_of_getElem? hr'), fun H2 p s2 hp => ?_⟩
    have hn := (List.getElem?_eq_some_iff.mp hr').1
    refine ⟨xs, s2 _ _ hcl, lt_size (by rw [hal.1, List.length_take]; omega), xs ++ [.ref p], Same.mut (Same.trans sm s2) hcd, upd_same, ?_⟩
    have e : rs.take (n + 1) = rs.take n ++ [r] := by
      rw [List.take_add_one, hr']
      rfl
    rw [e]
    refine ((hal.imp fun _ _ => (Same.kp s2).rowV).push (v := .ref p) (q := r) ⟨p, rfl, hp⟩).imp fun v q h => ?_
    obtain ⟨b, eb, dxb, hb⟩ := h
    exact ⟨b, eb, dxb, by rw [upd_ne (ne_of hb (s2 _ _ hcl) (by intro z; cases z))]; exact hb⟩
  · rw [show rs.take rxs.length = rs by rw [hrx, List.take_length]] at hal
    have hcode : CodeAt K H2 cd rs := ⟨xs, hcl, hal⟩
    have hok : ∀ (i : Nat) (r : RowD), rs[i]? = some r → r.ok := fun i r h => hrok r (List.mem_of_getElem? h)
    have hd2 := sm _ _ hd
    -- the table
    refine ⟨_, rfl, _, rfl, cd, d, rs, ls, rfl, hcode, hok, by omega, hll, hd2, fun H3 s3 => ?_, fun H3 tb es s3 htab => ?_⟩
    · exact ⟨_, rfl, rfl, _, rfl, iteT (k _)⟩
    · have s23 := Same.trans sm s3
      refine ⟨_, rfl, rfl, _, rfl, iteF ?_⟩
      have L3 : Lay K H3 cd tb rs es ls := ⟨(Same.kp s3).code hcode, htab, hok, by omega⟩
      refine ⟨_, rfl, _, rfl, cd, tb, rs, es, ls, rfl, L3, hll, fun H4 p ps s4 _ hp hgood => ?_⟩
      refine ⟨(by show 0 ≤ sizeLine; decide), fun ep hep => ?_⟩
      have s5 := Same.new (o := .lst []) hep
      refine ⟨p, ep, ps, rfl, rfl, SqL.of (s5 _ _ hp), SqL.of upd_same, _, rfl, ?_⟩
      rcases List.eq_nil_or_concat ps with eps | ⟨ps', y, eps⟩
      rotate_left
      · subst eps
        rw [show (List.concat ps' y).isEmpty = false by simp]
        exact iteT (k _)
      · subst eps
        have G := hgood rfl
        refine iteF ?_
        have s45 := Same.trans s4 s5
        have L5 := L3.kp (Same.kp s45)
        have sH5 : Same H _ := Same.trans s1 (Same.trans s23 s45)
        -- the boxes
        refine ⟨7, rfl, by decide, by decide, fun bx hbx => ?_⟩
        refine lc_range (lo := 0) (n := 7) (fun i H' => ∃ bl : List Nat, Same (upd H4 ep (.lst [])) H' ∧ H' bx = some (.lst (ns bl)) ∧ bl.length = i) ⟨[], Same.new hbx, upd_same, rfl⟩ (fun i H' hi ⟨bl, sb, hbl, hblen⟩ => ?_) (fun H6 ⟨bl, s6, hbl, hblen⟩ => ?_)
        · refine ⟨rfl, _, rfl, _, rfl, _, _, rfl, rfl, a, zs, _, rfl, (by show (0 : Int) ≤ 4 + (0 + (i : Int)); omega), Same.seqL (Same.trans sH5 sb) hs, fun z => ⟨z, rfl, fun H2' m sm2 => ?_⟩⟩
          refine ⟨_, sm2 _ _ hbl, lt_size (by rw [List.length_map]; omega), bl ++ [m], Same.mut (Same.trans sb sm2) hbx, ?_, by simp [hblen]⟩
          rw [upd_same]
          simp [ns]
        · -- the machine
          have L6 := L5.kp (Same.kp s6)
          refine ⟨_, rfl, _, rfl, _, rfl, fun m dx hm hdx hne => ⟨m, dx, cd, tb, bx, rs, es, ls, bl, H6, rfl, upd_same, ?_, hm, L6, hbl, hblen, fun H7 s7 hM => ⟨rfl, ?_⟩⟩⟩
          · intro b o hb
            rw [upd_ne (ne_of_none hb hm), upd_ne (ne_of_none hb hdx)]
            exact hb
          -- the calls
          refine ⟨(by show 0 ≤ sizeLine; decide), fun cl0 hcl0 => ?_⟩
          have s8 := Same.new (o := .lst []) hcl0
          have sH8 : Same H _ := Same.trans sH5 (Same.trans s6 (Same.trans s7 s8))
          have hM8 := hM.same s8
          have kpB : Same H1 _ := Same.trans s23 (Same.trans s45 (Same.trans s6 (Same.trans s7 s8)))
          have hrpB := kpB _ _ hrp
          have hralB := hral.imp fun v q h => (Same.kp kpB).tell (neg := false) (v := v) (r := q) h
          have hdB := kpB _ _ hd
          have hcdB := (L3.kp (Same.kp (Same.trans s45 (Same.trans s6 (Same.trans s7 s8))))).code
          have hclB : upd H7 cl0 (.lst []) cl0 = some (.lst []) := upd_same
          clear hrp hral hd hM
          obtain ⟨b0, b1, b2, b3, b4, b5, b6, rfl⟩ : ∃ b0 b1 b2 b3 b4 b5 b6, bl = [b0, b1, b2, b3, b4, b5, b6] := by
            match bl, hblen with
            | [b0, b1, b2, b3, b4, b5, b6], _ => exact ⟨_, _, _, _, _, _, _, rfl⟩
          have hI0 : RunI K (upd H7 cl0 (.lst [])) m rs es ls (rs.length, (b4, b5, b6), []) 0 cl0 (upd H7 cl0 (.lst [])) := by
            refine ⟨Kp.rfl, 0, _, _, _, _, hM8, ?_⟩
            by_cases hne0 : rs = []
            · subst hne0
              exact .inr (.inl rfl)
            · have hpos : 0 < rs.length := List.length_pos_iff.mpr hne0
              exact .inl ⟨if_neg (by omega), rfl, [], at_start G hne0, ⟨[], hclB, .nil⟩, Nat.le_refl _, Nat.le_refl _⟩
          generalize upd H7 cl0 (.lst []) = HB at *
          refine ⟨_, rfl, a, zs, 11, rfl, by omega, Same.seqL sH8 hs, fun z => ?_⟩
          obtain ⟨nn, hnn, hnl⟩ := modN z (m := 60) (by decide)
          refine ⟨_, _, rfl, rfl, (by show (0 : Int) < 60; decide), _, _, rfl, rfl, (1 + z % 60 : Int), rfl, by omega, by omega, ?_⟩
          obtain ⟨cxs, hcxs, hcal⟩ := hcdB
          refine for_range (lo := 0) (n := (1 + z % 60 : Int).toNat) (LawI K HB a rp d cd tb bx m rs es ls (rs.length, (b4, b5, b6), [])) ⟨cl0, none, none, none, none, rfl, hI0⟩ (fun n σ H' hn ⟨cl, s8, s9, s10, s11, eσ, kp, place, bs, pile, lost, st, hM, hcase⟩ => ?_) (fun σ H' ⟨cl, s8, s9, s10, s11, eσ, kp, place, bs, pile, lost, st, hM, hcase⟩ => ?_)
          · subst eσ
            have hn60 : n < 60 := by omega
            obtain ⟨dxm, c, tbm, hl, clm, ca, cs, M⟩ := hM
            refine ⟨_, rfl, m, dxm, _, rfl, M.at_, rfl, m, dxm, c, tbm, hl, clm, ca, rs.length, place, lost, .str st, st, rfl, M.at_, rfl, rfl, _, rfl, ?_⟩
            rcases hcase with ⟨rfl, rfl, calls, A', hbook, hpl, hcl⟩ | rfl | rfl
            rotate_left
            · exact iteT ⟨_, rfl, m, dxm, _, rfl, M.at_, rfl, m, dxm, c, tbm, hl, clm, ca, rs.length, place, lost, _, _, rfl, M.at_, rfl, (by show 2 ≤ sizeLine; decide), fun l hl => ⟨l, _, rfl, .inl (SqL.of upd_same), rfl, rfl, k _⟩⟩
            · exact iteT ⟨_, rfl, m, dxm, _, rfl, M.at_, rfl, m, dxm, c, tbm, hl, clm, ca, rs.length, place, lost, _, _, rfl, M.at_, rfl, (by show 2 ≤ sizeLine; decide), fun l hl => ⟨l, _, rfl, .inl (SqL.of upd_same), rfl, rfl, k _⟩⟩
            · obtain ⟨r, e, hri, hei, T0⟩ := A'.ent
              have hrok := hok _ _ hri
              obtain ⟨v, hv, ta, rfl, hta⟩ := hralB.2 _ _ hri
              obtain ⟨c0, c1, c2, c3, c4, c5, c6, c7, ebs⟩ := eight A'.len
              have hin := at_in G A'
              refine iteF ⟨_, rfl, _, rfl, m, dxm, _, rfl, M.at_, rfl, m, dxm, c, tbm, hl, clm, ca, rs.length, place, .non, vi place, "runs", rfl, M.at_, rfl, rp, rxs, _, .ref ta, rfl, rfl, SqL.of (kp.lst hrpB), at_nat rfl hv, ?_⟩
              refine ⟨_, rfl, m, dxm, _, rfl, M.at_, rfl, m, dxm, c, tbm, hl, clm, ca, hl, rs.length, place, .non, "runs", _, rfl, M.at_, rfl, M.held, fun H2 hq s2 hqn hq2 => ?_⟩
              have M2 := M.same s2
              refine ⟨_, rfl, m, dxm, _, rfl, M2.at_, rfl, m, dxm, c, tbm, hl, clm, ca, rs.length, place, .non, vi place, "runs", rfl, M2.at_, rfl, _, _, rfl, rfl, _, rfl, _, rfl, _, rfl, hq, _, rfl, SqL.of hq2, fun l hl2 => ?_⟩
              have s3 := Same.new (o := .lst (cutV (ns bs) (some 4) (some 7))) hl2
              refine ⟨l, ns [c4, c5, c6], rfl, .inl ⟨?_, fun kt hkt => ?_⟩⟩
              · refine SqL.of ?_
                rw [upd_same, ebs]
                rfl
              have s4 := Same.new (o := .tup (ns [c4, c5, c6])) hkt
              have s24 := Same.trans s2 (Same.trans s3 s4)
              have M4 := M.same s24
              refine ⟨_, rfl, m, dxm, _, rfl, M4.at_, rfl, m, dxm, c, tbm, hl, clm, ca, clm, rs.length, place, .non, "runs", _, rfl, M4.at_, rfl, M4.cells, fun H5 pq s5 hpqn hpq => ?_⟩
              refine ⟨(by show 3 ≤ sizeLine; decide), fun th hth => ?_⟩
              have s6 := Same.new (o := .tup [vi (place + 1), .ref kt, .ref pq]) hth
              have sA := Same.trans s24 (Same.trans s5 s6)
              have M6 := M.same sA
              have hthen : CallV (upd H5 th (.tup [vi (place + 1), .ref kt, .ref pq])) (.ref th) (place + 1, (c4, c5, c6), pile) := ⟨th, kt, pq, rfl, upd_same, s6 _ _ (s5 _ _ upd_same), s6 _ _ hpq⟩
              have hheld : upd H5 th (.tup [vi (place + 1), .ref kt, .ref pq]) hq = some (.lst (ns bs)) := Same.trans s3 (Same.trans s4 (Same.trans s5 s6)) _ _ hq2
              have kpA := Kp.trans kp (Same.kp sA)
              have hbookA := (Same.kp sA).book hbook
              refine ⟨_, rfl, m, dxm, _, rfl, M6.at_, rfl, ?_⟩
              have hpos : ∀ c ∈ calls, 1 ≤ c.1 := fun c hc => (hin c hc).1
              cases hdp : isDrop r with
              | true =>
                obtain ⟨b, rfl⟩ := (isDrop_iff r).mp hdp
                have hb7 : b ≤ 7 := hrok
                refine .inr ⟨m, b, place, n + 1, rs, es, ls, (rs.length, (b4, b5, b6), []), bs, pile, calls, .non, rfl, ⟨dxm, c, tbm, hl, clm, ca, cs, M6⟩, hri, at_dropIn G A' rfl rfl (by omega) b, fun H7 kp7 hout => ?_⟩
                have kpE := Kp.trans kpA kp7
                have hta7 := kpE.seqT hta
                have hbook7 := kp7.book hbookA
                obtain ⟨bxs, hbxs, hbal⟩ := hbook7
                refine ⟨_, rfl, ta, _, _, .str "drop", rfl, rfl, hta7, rfl, rfl, _, rfl, iteF ?_⟩
                refine ⟨_, rfl, ta, _, _, .str "drop", rfl, rfl, hta7, rfl, rfl, _, rfl, iteF ?_⟩
                refine ⟨_, rfl, ta, _, _, .str "drop", rfl, rfl, hta7, rfl, rfl, _, rfl, iteT ?_⟩
                cases hf : firstLand ls calls with
                | none =>
                  obtain ⟨dx7, c', tb', hl', clm', ca', cs', M7⟩ := hout.2 hf
                  refine ⟨_, rfl, _, rfl, _, rfl, _, rfl, _, rfl, ta, _, _, vi b, rfl, rfl, hta7, rfl, m, dx7, c', tb', hl', clm', ca', cl, d, hq, rs.length, place, b, _, _, bs, ls, calls, rfl, M7.at_, ⟨bxs, hbxs, hbal⟩, kpE.dK hdB, kp7.lst hheld, A'.len, hb7, hpos, by omega, fun _ => ⟨rfl, rfl⟩, fun k' j' cc' h' _ => (by rw [hf] at h'; cases h'), fun H8 s8 => ⟨_, rfl, iteF ?_⟩⟩
                  have kp8 := Kp.trans kpE (Same.kp s8)
                  refine ⟨_, rfl, _, rfl, _, rfl, cl, d, calls, ls, rfl, ⟨bxs, s8 _ _ hbxs, hbal.imp fun _ _ => (Same.kp s8).callV⟩, hpos, by omega, kp8.dK hdB, _, _, rfl, rfl, _, rfl, cl, bxs, rfl, SqL.of (s8 _ _ hbxs), fun l9 hl9 => ?_⟩
                  have s9' := Same.new (o := .lst (cutV bxs (some (1 + landI ls calls)) none)) hl9
                  exact ⟨l9, _, _, _, _, rfl, Kp.trans kp8 (Same.kp s9'), place, bs, pile, _, _, (MachAt.mono ⟨dx7, c', tb', hl', clm', ca', cs', (M7.same s8).same s9'⟩ (by omega)), .inr (.inr rfl)⟩
                | some q =>
                  obtain ⟨k', j⟩ := q
                  obtain ⟨cc, hck, hland, hj, hpile, AJ⟩ := at_drop G A' b hf
                  have hM7 := hout.1 k' j cc hf hck
                  rw [← hpile, show stOf rs.length j = ("runs" : Str) from if_neg (by omega)] at hM7
                  obtain ⟨dx7, c', tb', hl', clm', ca', cs', M7⟩ := hM7
                  have hcc := hin cc (List.mem_of_getElem? hck)
                  have hklt := (List.getElem?_eq_some_iff.mp hck).1
                  refine ⟨_, rfl, _, rfl, _, rfl, _, rfl, _, rfl, ta, _, _, vi b, rfl, rfl, hta7, rfl, m, dx7, c', tb', hl', clm', ca', cl, d, hq, rs.length, j, b, _, _, bs, ls, calls, rfl, M7.at_, ⟨bxs, hbxs, hbal⟩, kpE.dK hdB, kp7.lst hheld, A'.len, hb7, hpos, by omega, fun h' => (by rw [hf] at h'; cases h'), fun k2 j2 cc2 h' hc2 => ?_, fun H8 s8 => ⟨_, rfl, iteF ?_⟩⟩
                  · rw [hf] at h'
                    cases h'
                    rw [hck] at hc2
                    cases hc2
                    exact ⟨rfl, M7.held, M7.cells⟩
                  have kp8 := Kp.trans kpE (Same.kp s8)
                  refine ⟨_, rfl, _, rfl, _, rfl, cl, d, calls, ls, rfl, ⟨bxs, s8 _ _ hbxs, hbal.imp fun _ _ => (Same.kp s8).callV⟩, hpos, by omega, kp8.dK hdB, _, _, rfl, rfl, _, rfl, cl, bxs, rfl, SqL.of (s8 _ _ hbxs), fun l9 hl9 => ?_⟩
                  have s9' := Same.new (o := .lst (cutV bxs (some (1 + landI ls calls)) none)) hl9
                  have e9 : cutV bxs (some (1 + landI ls calls)) none = bxs.drop (k' + 1) := by
                    rw [show (1 + landI ls calls) = ((k' + 1 : Nat) : Int) by unfold landI; rw [hf]; show 1 + (k' : Int) = _; omega]
                    exact cut_drop bxs (k' + 1)
                  refine ⟨l9, _, _, _, _, rfl, Kp.trans kp8 (Same.kp s9'), j, _, _, _, _, (MachAt.mono ⟨dx7, c', tb', hl', clm', ca', cs', (M7.same s8).same s9'⟩ (by omega)), .inl ⟨rfl, rfl, calls.drop (k' + 1), AJ, ⟨bxs.drop (k' + 1), by rw [← e9]; exact upd_same, ((hbal.drop (k' + 1)).imp fun _ _ => (Same.kp (Same.trans s8 s9')).callV)⟩, by omega, by rw [List.length_drop]; omega⟩⟩
              | false =>
                have hnd : ∀ t, r ≠ .drop t := fun t z => by subst z; cases hdp
                cases hbk : isBack r with
                | true =>
                  obtain ⟨b, rfl⟩ : ∃ b, r = .back b := by
                    cases r with
                    | back b => exact ⟨b, rfl⟩
                    | _ => cases hbk
                  have hb7 : b ≤ 7 := hrok
                  obtain ⟨q1, q4, q5, q6, q7, qc⟩ := at_back G A' hb7 hri
                  have enx : bs.getD b 0 = (topOf (rs.length, (b4, b5, b6), []) calls).1 := getD_of q1
                  have hle : bs.getD b 0 ≤ rs.length := by
                    rw [enx]
                    cases calls with
                    | nil => exact Nat.le_refl _
                    | cons c r => exact Nat.le_of_lt (qc c r rfl).1
                  refine .inl ⟨m, place, n + 1, bs.getD b 0, .back b, rs, es, ls, bs, pile, bs, pile, .non, rfl, ⟨dxm, c, tbm, hl, clm, ca, cs, M6⟩, hri, hnd, A'.len, by omega, by omega, rfl, hle, fun H7 kp7 hM7 => ?_⟩
                  obtain ⟨dx7, c', tb', hl', clm', ca', cs', M7⟩ := hM7
                  have kpE := Kp.trans kpA kp7
                  have hta7 := kpE.seqT hta
                  obtain ⟨bxs, hbxs, hbal⟩ := kp7.book hbookA
                  refine ⟨_, rfl, ta, _, _, .str "back", rfl, rfl, hta7, rfl, rfl, _, rfl, iteF ?_⟩
                  dsimp only [tNext]
                  refine seq_join (t := tIfS _ _ _) (fun σ H8 => ∃ (cl9 : Addr), σ = [some (.ref a), some (.ref rp), some (.ref d), some (.ref cd), some (.ref tb), some (.ref bx), some (.ref m), some (.ref cl9), some (.int (0 + (n : Int))), some (.ref ta), some (.ref hq), some (.ref th)] ∧ Same H7 H8 ∧ BookAt H8 cl9 (calls.drop 1)) (fun σ H8 ⟨cl9, eσ, s8, hb9⟩ => ?_) (fun N rest => ?_)
                  · subst eσ
                    refine ⟨_, rfl, ta, _, _, .str "back", rfl, rfl, (Same.kp s8).seqT hta7, rfl, rfl, _, rfl, iteF ?_⟩
                    refine ⟨cl9, _, _, _, _, rfl, Kp.trans kpE (Same.kp s8), bs.getD b 0, bs, pile, .non, _, (MachAt.mono ⟨dx7, c', tb', hl', clm', ca', cs', M7.same s8⟩ (by omega)), ?_⟩
                    cases calls with
                    | nil =>
                      refine .inr (.inl (if_pos ?_))
                      exact enx
                    | cons c r =>
                      obtain ⟨h1, h2⟩ := qc c r rfl
                      have hlt : bs.getD b 0 < rs.length := by rw [enx]; exact h1
                      refine .inl ⟨if_neg (by omega), rfl, r, ?_, hb9, by omega, by have : (c :: r).length = r.length + 1 := rfl; omega⟩
                      rw [enx]
                      exact h2
                  · refine ⟨_, rfl, ta, _, _, .str "back", rfl, rfl, hta7, rfl, rfl, _, rfl, iteT ?_⟩
                    refine ⟨_, rfl, _, rfl, _, rfl, cd, cxs, rfl, .inl (SqL.of (kpE.lst hcxs)), m, dx7, c', tb', hl', clm', ca', cl, rs.length, bs.getD b 0, _, _, bs, pile, calls, (by rw [hcal.1]; rfl), M7.at_, M7.held, M7.cells, ⟨bxs, hbxs, hbal⟩, A'.len, fun ec => ?_, fun cc r ec => ?_, fun H8 s8 => ⟨_, rfl, iteF ?_⟩⟩
                    · subst ec
                      exact ⟨if_pos enx, enx⟩
                    · subst ec
                      exact ⟨enx, q4, q5, q6, q7⟩
                    refine ⟨_, rfl, _, rfl, cl, bxs, rfl, SqL.of (s8 _ _ hbxs), fun l9 hl9 => ?_⟩
                    have s9' := Same.new (o := .lst (cutV bxs (some 1) none)) hl9
                    have e9 : cutV bxs (some 1) none = bxs.drop 1 := cut_drop bxs 1
                    exact rest _ _ ⟨l9, rfl, Same.trans s8 s9', bxs.drop 1, by rw [← e9]; exact upd_same, ((hbal.drop 1).imp fun _ _ => (Same.kp (Same.trans s8 s9')).callV)⟩
                | false =>
                  have hnb : ∀ t, r ≠ .back t := fun t z => by subst z; cases hbk
                  cases hca : isCall r with
                  | true =>
                    obtain ⟨t, rfl⟩ := (isCall_iff r).mp hca
                    obtain ⟨h1, h2, AC⟩ := at_call G A' hri
                    refine .inl ⟨m, place, n + 1, t, .call t, rs, es, ls, bs, pile, bs.set 7 (place + 1), pile, .non, rfl, ⟨dxm, c, tbm, hl, clm, ca, cs, M6⟩, hri, hnd, A'.len, by omega, by omega, rfl, by omega, fun H7 kp7 hM7 => ?_⟩
                    rw [show stOf rs.length t = ("runs" : Str) from if_neg (by omega)] at hM7
                    have kpE := Kp.trans kpA kp7
                    have hta7 := kpE.seqT hta
                    obtain ⟨bxs, hbxs, hbal⟩ := kp7.book hbookA
                    have hth7 := kp7.callV hthen
                    have hbl := hbal.1
                    refine ⟨_, rfl, ta, _, _, .str "call", rfl, rfl, hta7, rfl, rfl, _, rfl, iteT ⟨_, rfl, (by show 1 ≤ sizeLine; decide), fun l1 hl1 => ?_⟩⟩
                    have s8 := Same.new (o := .lst [.ref th]) hl1
                    refine ⟨_, rfl, l1, cl, _, _, rfl, rfl, upd_same, s8 _ _ hbxs, le_size (by simp; omega), fun l2 hl2 => ?_⟩
                    have s9' := Same.new (o := .lst ([.ref th] ++ bxs)) hl2
                    have s89 := Same.trans s8 s9'
                    refine ⟨_, rfl, ta, _, _, .str "call", rfl, rfl, (Same.kp s89).seqT hta7, rfl, rfl, _, rfl, iteF ?_⟩
                    refine ⟨_, rfl, ta, _, _, .str "call", rfl, rfl, (Same.kp s89).seqT hta7, rfl, rfl, _, rfl, iteF ?_⟩
                    refine ⟨l2, _, _, _, _, rfl, Kp.trans kpE (Same.kp s89), t, _, _, _, _, (MachAt.mono (hM7.same s89) (by omega)), .inl ⟨rfl, rfl, _, AC, ⟨[.ref th] ++ bxs, upd_same, ?_⟩, by omega, by simp; omega⟩⟩
                    refine Al.cons ?_ (hbal.imp fun _ _ => (Same.kp s89).callV)
                    have ek : ((place + 1, (bs.getD 4 0, bs.getD 5 0, bs.getD 6 0), pile) : CallD) = (place + 1, (c4, c5, c6), pile) := by rw [ebs]; rfl
                    rw [ek]
                    exact (Same.kp s89).callV hth7
                  | false =>
                    have hnc : ∀ t, r ≠ .call t := fun t z => by subst z; cases hca
                    obtain ⟨nx, bs', pile', hrun, hnx, AN, hroom⟩ := at_row G hok A' (by omega) hri hnd hnb hnc
                    refine .inl ⟨m, place, n + 1, nx, r, rs, es, ls, bs, pile, bs', pile', .non, rfl, ⟨dxm, c, tbm, hl, clm, ca, cs, M6⟩, hri, hnd, A'.len, by omega, by omega, hrun, by omega, fun H7 kp7 hM7 => ?_⟩
                    rw [show stOf rs.length nx = ("runs" : Str) from if_neg (by omega)] at hM7
                    have kpE := Kp.trans kpA kp7
                    have hta7 := kpE.seqT hta
                    refine ⟨_, rfl, ta, _, _, .str (wordOf r), rfl, rfl, hta7, word_at false r, rfl, _, rfl, ?_⟩
                    rw [decide_eq_false (word_call hnc)]
                    refine iteF ⟨_, rfl, ta, _, _, .str (wordOf r), rfl, rfl, hta7, word_at false r, rfl, _, rfl, ?_⟩
                    rw [decide_eq_false (word_back hnb)]
                    refine iteF ⟨_, rfl, ta, _, _, .str (wordOf r), rfl, rfl, hta7, word_at false r, rfl, _, rfl, ?_⟩
                    rw [decide_eq_false (word_drop hnd)]
                    exact iteF ⟨cl, _, _, _, _, rfl, kpE, nx, bs', pile', .non, _, (MachAt.mono hM7 (by omega)), .inl ⟨rfl, rfl, calls, AN, kp7.book hbookA, by omega, by omega⟩⟩
          · subst eσ
            obtain ⟨dxm, c, tbm, hl, clm, ca, cs, M⟩ := hM
            refine ⟨_, rfl, m, dxm, _, rfl, M.at_, rfl, m, dxm, c, tbm, hl, clm, ca, rs.length, place, lost, .str st, st, rfl, M.at_, rfl, rfl, ?_⟩
            rcases hcase with ⟨rfl, _⟩ | rfl | rfl
            · exact k _
            · exact k _
            · exact k _
end
end Fb

set_option Elab.async false
set_option linter.all false
set_option maxRecDepth 100000
set_option maxHeartbeats 0
namespace Fb
open PySem PySem.Spec PyProof.Rows L2
open He (ga ma)
theorem facts {P : Program} {w : World} {K : PySem.W.Frag} {h : Heap} {mg : Str → Option Value} {f : Addr} (X : K.In h) (G : h.Ns mainGlobals mg) (hfa : mg ("law" : Str) = some (.ref f)) (c : SaysF K) :
    ∃ fd : FuncData, (∀ (s : Shared) (v : Value), BindsTo s fd ⟨[v], []⟩ [("_law_script", v)]) ∧ ∀ base : Heap, K.In base → base.Ns mainGlobals mg → FnOk P w K mg base CX0 30 f fd ["_law_script"] (spLaw K) := by
  have T : Tx K mg := ⟨⟨h, X, G⟩, c⟩
  have ef : f = ga K "law" := by
    have e := T.gl_law
    rw [hfa] at e
    cases e
    rfl
  subst ef
  obtain ⟨fd, F⟩ := T.F_law
  refine ⟨fd, fun s v => F.bindsA (ps := ["_law_script"]) hb_law s [v] rfl, fun base _ _ => F.ok (N := N_law) (ps := ["_law_script"]) sc_law (fun vs H Q E h => ?_) fun cdv A outer s H vs Q E hr h => ?_⟩
  · obtain ⟨a, zs, rfl, _⟩ := h
    rfl
  · obtain ⟨t, h1, h2⟩ := law_walk (P := P) (w := w) (base := base) T cdv A outer s H vs Q E hr h
    exact ⟨t, h1.nox, h2⟩
end Fb
open PySem PySem.W PySem.Calls PyProof.Rows
theorem PySem.Challenge.cw_frameback_k92_whole_all_as_at_the_call_holds : PySem.Challenge.rw_frameback_k92_whole_all_as_at_the_call.Holds := by
  w_on; o_law
  refine HandSHeadRun.head_any (r := OpenLaw.row PySem.Challenge.rw_frameback_k92_whole_all_as_at_the_call) (q := view (OpenLaw.row PySem.Challenge.rw_frameback_k92_whole_all_as_at_the_call).prog [75]) (H := Fb.hookF) (ob := Fb.ob) (M := 20000) (loose := Fb.loose) (d := HandSHeadRun.topDef (OpenLaw.row PySem.Challenge.rw_frameback_k92_whole_all_as_at_the_call).prog 75) (kwd := []) Fb.ob_eq
    (by kernel_rfl) (fun s => by kernel_rfl) Fb.run (by kernel_rfl) (by kernel_rfl) (by kernel_rfl) (by rfl) (by first | assumption | decide +kernel) (by decide +kernel) ⟨rfl, rfl, rfl, rfl, rfl, by decide +kernel⟩ ?hw ?hc
  case hw => w_witness2
  case hc =>
    refine L2.walk_ofE (l := PySem.Challenge.rw_frameback_k92_whole_all_as_at_the_call) (n := 63) (k := 30) (x := "_law_script") (CX := L2.CX0) rfl (by decide) (by kernel_rfl) ⟨rfl, by decide, by decide⟩ ?F (fun _ _ _ _ z => z)
    intro w mg fa h Y G hmg0
    obtain ⟨K, KX, c⟩ := Y
    have hmg : mg ("law" : PySem.Str) = some (.ref fa) := by
      have e : (HandSHeadRun.topDef (OpenLaw.row PySem.Challenge.rw_frameback_k92_whole_all_as_at_the_call).prog 75).name = ("law" : PySem.Str) := by kernel_rfl
      rw [← e]
      exact hmg0
    obtain ⟨fd, hb, hF⟩ := Fb.facts (P := (PySem.Challenge.rw_frameback_k92_whole_all_as_at_the_call).prog) (w := w) KX G hmg c
    exact ⟨K, fd, Fb.spLaw K, KX, hb, fun H a ns hl _ hS => ⟨a, ns, rfl, hS, hl, fun _ => rfl⟩, hF⟩

